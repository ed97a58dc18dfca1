/- What the functions of the law FnDivisions tell without rounds, and its pure statement. -/
import Derived.Test.YtkhjoomjjdgkjaaPx0
import Derived.Test.YtkhjoomjjdgkjaaPx1
import Derived.Test.YtkhjoomjjdgkjaaPx2
import Derived.Test.YtkhjoomjjdgkjaaPx3
import Derived.Test.YtkhjoomjjdgkjaaPx4
import Derived.Test.YtkhjoomjjdgkjaaPx5
import Derived.Test.YtkhjoomjjdgkjaaPx6
import Derived.Test.YtkhjoomjjdgkjaaPx7
import Derived.Test.YtkhjoomjjdgkjaaPx8
import Derived.Test.YtkhjoomjjdgkjaaPx9
import Derived.Test.YtkhjoomjjdgkjaaPx13
import Derived.Test.YtkhjoomjjdgkjaaPx16
import Derived.Test.YtkhjoomjjdgkjaaPx17
import Derived.Test.YtkhjoomjjdgkjaaPx18
import Derived.Test.YtkhjoomjjdgkjaaPx19
import Derived.Test.YtkhjoomjjdgkjaaPx24
import Derived.Test.YtkhjoomjjdgkjaaPx20
import Derived.Test.YtkhjoomjjdgkjaaPx36
import Derived.ProofKit
import Derived.Test.YtkhjoomjjdgkjaaPx10
import Derived.Test.YtkhjoomjjdgkjaaPx14
import Derived.Test.YtkhjoomjjdgkjaaPx11
import Derived.Test.YtkhjoomjjdgkjaaPx15
import Derived.Test.YtkhjoomjjdgkjaaPx22
section
namespace Go.Proofs.Ytkhjoomjjdgkjaa.P
open Go.RowKit Go.Proofs.YtkhjoomjjdgkjaaW.PrintWords Go.Proofs.YtkhjoomjjdgkjaaW.PrintLast Go.Proofs.YtkhjoomjjdgkjaaW.PrintMore
def IsLim {α : Type} (g : Nat → Option α) (v : Option α) : Prop := (∀ k, LeO (g k) (g (k + 1))) ∧ ∀ r, v = some r ↔ ∃ k, g k = some r
theorem leO_le {α : Type} {g : Nat → Option α} (h : ∀ k, LeO (g k) (g (k + 1))) {j k : Nat} (hjk : j ≤ k) : LeO (g j) (g k) := by
  induction hjk with
  | refl => exact fun _ e => e
  | step _ ih => exact fun r e => h _ r (ih r e)
open Classical in
noncomputable def lim {α : Type} (g : Nat → Option α) : Option α := if h : ∃ r, ∃ k, g k = some r then some h.choose else none
theorem lim_spec {α : Type} {g : Nat → Option α} (h : ∀ k, LeO (g k) (g (k + 1))) : IsLim g (lim g) := by
  refine ⟨h, fun r => ?_⟩
  unfold lim
  by_cases hx : ∃ r, ∃ k, g k = some r
  · rw [dif_pos hx]
    obtain ⟨k, hk⟩ := hx.choose_spec
    constructor
    · intro e; exact ⟨k, by rw [hk]; exact e⟩
    · rintro ⟨j, hj⟩
      have a := leO_le h (Nat.le_max_left j k) _ hj
      have b := leO_le h (Nat.le_max_right j k) _ hk
      rw [a] at b; exact b.symm
  · rw [dif_neg hx]
    constructor
    · intro e; cases e
    · rintro ⟨k, hk⟩; exact absurd ⟨r, k, hk⟩ hx
theorem IsLim.unique {α : Type} {g : Nat → Option α} {v v' : Option α} (h : IsLim g v) (h' : IsLim g v') : v = v' :=
  Option.ext fun r => (h.2 r).trans (h'.2 r).symm
theorem IsLim.const {α : Type} (v : Option α) : IsLim (fun _ => v) v := ⟨fun _ _ e => e, fun _ => ⟨fun e => ⟨0, e⟩, fun ⟨_, e⟩ => e⟩⟩
theorem IsLim.ite {α : Type} {c : Prop} [Decidable c] {g g' : Nat → Option α} {v v' : Option α} (h : IsLim g v) (h' : IsLim g' v') :
    IsLim (fun k => if c then g k else g' k) (if c then v else v') := by
  by_cases hc : c
  · simp only [if_pos hc]; exact h
  · simp only [if_neg hc]; exact h'
theorem IsLim.bind {α β : Type} {g : Nat → Option α} {v : Option α} {q : Nat → α → Option β} {w : α → Option β}
    (h : IsLim g v) (hq : ∀ x, IsLim (fun k => q k x) (w x)) : IsLim (fun k => (g k).bind (q k)) (v.bind w) := by
  refine ⟨fun k r e => ?_, fun r => ?_⟩
  · obtain ⟨x, hx, hr⟩ := Option.bind_eq_some_iff.mp e
    exact Option.bind_eq_some_iff.mpr ⟨x, h.1 k x hx, (hq x).1 k r hr⟩
  · constructor
    · intro e
      obtain ⟨x, hx, hr⟩ := Option.bind_eq_some_iff.mp e
      obtain ⟨j, hj⟩ := (h.2 x).mp hx
      obtain ⟨k, hk⟩ := ((hq x).2 r).mp hr
      exact ⟨max j k, Option.bind_eq_some_iff.mpr ⟨x, leO_le h.1 (Nat.le_max_left j k) _ hj, leO_le (hq x).1 (Nat.le_max_right j k) _ hk⟩⟩
    · rintro ⟨k, e⟩
      obtain ⟨x, hx, hr⟩ := Option.bind_eq_some_iff.mp e
      exact Option.bind_eq_some_iff.mpr ⟨x, (h.2 x).mpr ⟨k, hx⟩, ((hq x).2 r).mpr ⟨k, hr⟩⟩
theorem IsLim.shift {α : Type} {g : Nat → Option α} {v : Option α} (h0 : g 0 = none) (h : IsLim (fun k => g (k + 1)) v) : IsLim g v := by
  refine ⟨fun k => ?_, fun r => ?_⟩
  · cases k with
    | zero => intro r e; rw [h0] at e; cases e
    | succ k => exact h.1 k
  · rw [h.2 r]
    constructor
    · rintro ⟨k, e⟩; exact ⟨k + 1, e⟩
    · rintro ⟨k, e⟩
      cases k with
      | zero => rw [h0] at e; cases e
      | succ k => exact ⟨k, e⟩
theorem IsLim.some_ {α : Type} {g : Nat → Option α} {v : Option α} {r : α} (h : IsLim g v) (e : v = some r) : ∃ k, g k = some r := (h.2 r).mp e
end Go.Proofs.Ytkhjoomjjdgkjaa.P
end
section
namespace Go.Proofs.Ytkhjoomjjdgkjaa.P
open Go.RowKit Go.Proofs.YtkhjoomjjdgkjaaW.PrintWords Go.Proofs.YtkhjoomjjdgkjaaW.PrintLast Go.Proofs.YtkhjoomjjdgkjaaW.PrintMore
set_option linter.unusedVariables false
set_option linter.unusedSimpArgs false
noncomputable def spec_l01Degree.l0d (x0 : Int) (x3 : Int) : Option (Int) := lim (fun k => spec_l01Degree.l0 k x0 x3)
theorem spec_l01Degree.l0lim (x0 : Int) (x3 : Int) : IsLim (fun k => spec_l01Degree.l0 k x0 x3) (spec_l01Degree.l0d x0 x3) := lim_spec (fun k => (spec_l01Degree.mono_l k) x0 x3)
theorem spec_l01Degree.l0d_eq (x0 : Int) (x3 : Int) : spec_l01Degree.l0d x0 x3 = if x0 > 0 then (spec_l01Degree.l0d (wrap64 (Int.tdiv x0 2)) (wrap64 (x3 + 1))) else (some x3) := by
  refine IsLim.unique (spec_l01Degree.l0lim _ _) ?_
  refine IsLim.shift (by rfl) ?_
  simp only [spec_l01Degree.l0]
  repeat' (first | exact IsLim.const _ | refine IsLim.ite ?_ ?_ | refine IsLim.bind ?_ (fun _ => ?_) | exact spec_l01Degree.l0lim ..)
noncomputable def spec_l01Degree.d (a0 : Int) : Option (Int) := lim (fun k => spec_l01Degree.f k a0)
theorem spec_l01Degree.lim (a0 : Int) : IsLim (fun k => spec_l01Degree.f k a0) (spec_l01Degree.d a0) := lim_spec (fun k => spec_l01Degree.mono a0 k)
theorem spec_l01Degree.d_eq (a0 : Int) : spec_l01Degree.d a0 = spec_l01Degree.l0d a0 (-1) := by
  refine IsLim.unique (spec_l01Degree.lim _) ?_
  unfold spec_l01Degree.f
  repeat' (first | exact IsLim.const _ | refine IsLim.ite ?_ ?_ | refine IsLim.bind ?_ (fun _ => ?_) | exact spec_l01Degree.l0lim ..)
noncomputable def spec_l01Rest.l0d (x0 : Int) (x1 : Int) (x5 : Int) : Option (Int) := lim (fun k => spec_l01Rest.l0 k x0 x1 x5)
theorem spec_l01Rest.l0lim (x0 : Int) (x1 : Int) (x5 : Int) : IsLim (fun k => spec_l01Rest.l0 k x0 x1 x5) (spec_l01Rest.l0d x0 x1 x5) := lim_spec (fun k => (spec_l01Rest.mono_l k) x0 x1 x5)
theorem spec_l01Rest.l0d_eq (x0 : Int) (x1 : Int) (x5 : Int) : spec_l01Rest.l0d x0 x1 x5 = (spec_l01Degree.d x0).bind fun t102 => (if t102 ≥ x5 then ((spec_l01Degree.d x0).bind fun t103 => (if 0 ≤ (IntKind.u64.wrap (wrap64 (t103 - x5))) then (spec_l01Rest.l0d (Go.bits .xor .i64 x0 (shl .i64 x1 (IntKind.u64.wrap (wrap64 (t103 - x5))))) x1 x5) else (none))) else (some x0)) := by
  refine IsLim.unique (spec_l01Rest.l0lim _ _ _) ?_
  refine IsLim.shift (by rfl) ?_
  simp only [spec_l01Rest.l0]
  repeat' (first | exact IsLim.const _ | refine IsLim.ite ?_ ?_ | refine IsLim.bind ?_ (fun _ => ?_) | exact spec_l01Degree.lim .. | exact spec_l01Rest.l0lim ..)
noncomputable def spec_l01Rest.d (a0 : Int) (a1 : Int) : Option (Int) := lim (fun k => spec_l01Rest.f k a0 a1)
theorem spec_l01Rest.lim (a0 : Int) (a1 : Int) : IsLim (fun k => spec_l01Rest.f k a0 a1) (spec_l01Rest.d a0 a1) := lim_spec (fun k => spec_l01Rest.mono a0 a1 k)
theorem spec_l01Rest.d_eq (a0 : Int) (a1 : Int) : spec_l01Rest.d a0 a1 = (spec_l01Degree.d a1).bind fun t101 => (spec_l01Rest.l0d a0 a1 t101) := by
  refine IsLim.unique (spec_l01Rest.lim _ _) ?_
  unfold spec_l01Rest.f
  repeat' (first | exact IsLim.const _ | refine IsLim.ite ?_ ?_ | refine IsLim.bind ?_ (fun _ => ?_) | exact spec_l01Degree.lim .. | exact spec_l01Rest.l0lim ..)
noncomputable def spec_l01Irreducible.d (a0 : Int) : Option (Bool) := lim (fun k => spec_l01Irreducible.f k a0)
theorem spec_l01Irreducible.lim (a0 : Int) : IsLim (fun k => spec_l01Irreducible.f k a0) (spec_l01Irreducible.d a0) := lim_spec (fun k => spec_l01Irreducible.mono a0 k)
noncomputable def spec_IsIrreducible.d (a0 : Int) : Option (Bool) := lim (fun k => spec_IsIrreducible.f k a0)
theorem spec_IsIrreducible.lim (a0 : Int) : IsLim (fun k => spec_IsIrreducible.f k a0) (spec_IsIrreducible.d a0) := lim_spec (fun k => spec_IsIrreducible.mono a0 k)
theorem spec_IsIrreducible.d_eq (a0 : Int) : spec_IsIrreducible.d a0 = if a0 > 0 then (if a0 < 64 then ((spec_l01Irreducible.d a0).bind fun t107 => (some t107)) else (some false)) else (some false) := by
  refine IsLim.unique (spec_IsIrreducible.lim _) ?_
  unfold spec_IsIrreducible.f
  repeat' (first | exact IsLim.const _ | refine IsLim.ite ?_ ?_ | refine IsLim.bind ?_ (fun _ => ?_) | exact spec_l01Irreducible.lim ..)
noncomputable def spec_l01Ok.d (a0_0 : Int) (a0_1 : Int) : Option (Bool) := lim (fun k => spec_l01Ok.f k a0_0 a0_1)
theorem spec_l01Ok.lim (a0_0 : Int) (a0_1 : Int) : IsLim (fun k => spec_l01Ok.f k a0_0 a0_1) (spec_l01Ok.d a0_0 a0_1) := lim_spec (fun k => spec_l01Ok.mono a0_0 a0_1 k)
theorem spec_l01Ok.d_eq (a0_0 : Int) (a0_1 : Int) : spec_l01Ok.d a0_0 a0_1 = (spec_l00In.f a0_0 1 5).bind fun t109 => (if t109 = true then ((spec_IsIrreducible.d a0_1).bind fun t110 => (if t110 = true then ((spec_l01Degree.d a0_1).bind fun t111 => (some (t111 == a0_0))) else (some false))) else (some false)) := by
  refine IsLim.unique (spec_l01Ok.lim _ _) ?_
  unfold spec_l01Ok.f
  repeat' (first | exact IsLim.const _ | refine IsLim.ite ?_ ?_ | refine IsLim.bind ?_ (fun _ => ?_) | exact spec_IsIrreducible.lim .. | exact spec_l01Degree.lim ..)
end Go.Proofs.Ytkhjoomjjdgkjaa.P
end
section
namespace Go.Proofs.Ytkhjoomjjdgkjaa.P
open Go.RowKit Go.Proofs.YtkhjoomjjdgkjaaW.PrintWords Go.Proofs.YtkhjoomjjdgkjaaW.PrintLast Go.Proofs.YtkhjoomjjdgkjaaW.PrintMore
set_option linter.unusedVariables false
set_option linter.unusedSimpArgs false
noncomputable def spec_l03Elements.l0d (x1 : List Int) (x5 : Int) (x114000 : Int) (x114001 : Int) : Option (Bool) := lim (fun k => spec_l03Elements.l0 k x1 x5 x114000 x114001)
theorem spec_l03Elements.l0lim (x1 : List Int) (x5 : Int) (x114000 : Int) (x114001 : Int) : IsLim (fun k => spec_l03Elements.l0 k x1 x5 x114000 x114001) (spec_l03Elements.l0d x1 x5 x114000 x114001) := lim_spec (fun k => (spec_l03Elements.mono_l k) x1 x5 x114000 x114001)
theorem spec_l03Elements.l0d_eq (x1 : List Int) (x5 : Int) (x114000 : Int) (x114001 : Int) : spec_l03Elements.l0d x1 x5 x114000 x114001 = if x5 < (x1.length : Int) then (if 0 ≤ x5 then ((spec_l01Size.f x114000 x114001).bind fun t115 => ((spec_l00In.f (rd x1 x5) 0 (wrap64 (t115 - 1))).bind fun t116 => (if t116 = true then (spec_l03Elements.l0d x1 (wrap64 (x5 + 1)) x114000 x114001) else (some false)))) else (none)) else (some true) := by
  refine IsLim.unique (spec_l03Elements.l0lim _ _ _ _) ?_
  refine IsLim.shift (by rfl) ?_
  simp only [spec_l03Elements.l0]
  repeat' (first | exact IsLim.const _ | refine IsLim.ite ?_ ?_ | refine IsLim.bind ?_ (fun _ => ?_) | exact spec_l03Elements.l0lim ..)
noncomputable def spec_l03Elements.d (a0_0 : Int) (a0_1 : Int) (l1 : List Int) : Option (Bool) := lim (fun k => spec_l03Elements.f k a0_0 a0_1 l1)
theorem spec_l03Elements.lim (a0_0 : Int) (a0_1 : Int) (l1 : List Int) : IsLim (fun k => spec_l03Elements.f k a0_0 a0_1 l1) (spec_l03Elements.d a0_0 a0_1 l1) := lim_spec (fun k => spec_l03Elements.mono a0_0 a0_1 l1 k)
theorem spec_l03Elements.d_eq (a0_0 : Int) (a0_1 : Int) (l1 : List Int) : spec_l03Elements.d a0_0 a0_1 l1 = spec_l03Elements.l0d l1 0 a0_0 a0_1 := by
  refine IsLim.unique (spec_l03Elements.lim _ _ _) ?_
  unfold spec_l03Elements.f
  repeat' (first | exact IsLim.const _ | refine IsLim.ite ?_ ?_ | refine IsLim.bind ?_ (fun _ => ?_) | exact spec_l03Elements.l0lim ..)
noncomputable def spec_l03Ok.d (a0_0 : Int) (a0_1 : Int) (l1 : List Int) : Option (Bool) := lim (fun k => spec_l03Ok.f k a0_0 a0_1 l1)
theorem spec_l03Ok.lim (a0_0 : Int) (a0_1 : Int) (l1 : List Int) : IsLim (fun k => spec_l03Ok.f k a0_0 a0_1 l1) (spec_l03Ok.d a0_0 a0_1 l1) := lim_spec (fun k => spec_l03Ok.mono a0_0 a0_1 l1 k)
theorem spec_l03Ok.d_eq (a0_0 : Int) (a0_1 : Int) (l1 : List Int) : spec_l03Ok.d a0_0 a0_1 l1 = if (l1.length : Int) ≤ 12 then ((spec_l03Elements.d a0_0 a0_1 l1).bind fun t118 => (if t118 = true then (if (l1.length : Int) = 0 then (some true) else (if 0 ≤ (wrap64 ((l1.length : Int) - 1)) then (if (wrap64 ((l1.length : Int) - 1)) < (l1.length : Int) then (some ((rd l1 (wrap64 ((l1.length : Int) - 1))) != 0)) else (none)) else (none))) else (some false))) else (some false) := by
  refine IsLim.unique (spec_l03Ok.lim _ _ _) ?_
  unfold spec_l03Ok.f
  repeat' (first | exact IsLim.const _ | refine IsLim.ite ?_ ?_ | refine IsLim.bind ?_ (fun _ => ?_) | exact spec_l03Elements.lim ..)
noncomputable def spec_ValidLinear.d (a0_0 : Int) (a0_1 : Int) (l1 : List Int) : Option (Bool) := lim (fun k => spec_ValidLinear.f k a0_0 a0_1 l1)
theorem spec_ValidLinear.lim (a0_0 : Int) (a0_1 : Int) (l1 : List Int) : IsLim (fun k => spec_ValidLinear.f k a0_0 a0_1 l1) (spec_ValidLinear.d a0_0 a0_1 l1) := lim_spec (fun k => spec_ValidLinear.mono a0_0 a0_1 l1 k)
theorem spec_ValidLinear.d_eq (a0_0 : Int) (a0_1 : Int) (l1 : List Int) : spec_ValidLinear.d a0_0 a0_1 l1 = (spec_l01Ok.d a0_0 a0_1).bind fun t121 => (if t121 = true then ((spec_l03Ok.d a0_0 a0_1 l1).bind fun t122 => (some t122)) else (some false)) := by
  refine IsLim.unique (spec_ValidLinear.lim _ _ _) ?_
  unfold spec_ValidLinear.f
  repeat' (first | exact IsLim.const _ | refine IsLim.ite ?_ ?_ | refine IsLim.bind ?_ (fun _ => ?_) | exact spec_l01Ok.lim .. | exact spec_l03Ok.lim ..)
noncomputable def spec_l03Trim.l0d (x0 : List Int) (x3 : Int) : Option (List Int) := lim (fun k => spec_l03Trim.l0 k x0 x3)
theorem spec_l03Trim.l0lim (x0 : List Int) (x3 : Int) : IsLim (fun k => spec_l03Trim.l0 k x0 x3) (spec_l03Trim.l0d x0 x3) := lim_spec (fun k => (spec_l03Trim.mono_l k) x0 x3)
theorem spec_l03Trim.l0d_eq (x0 : List Int) (x3 : Int) : spec_l03Trim.l0d x0 x3 = if x3 > 0 then (if 0 ≤ (wrap64 (x3 - 1)) then (if (wrap64 (x3 - 1)) < (x0.length : Int) then (if (rd x0 (wrap64 (x3 - 1))) = 0 then (spec_l03Trim.l0d x0 (wrap64 (x3 - 1))) else (if 0 ≤ x3 then (if x3 ≤ (x0.length : Int) then ((spec_l00Own.f (x0.take (x3 : Int).toNat)).bind fun t147 => (some t147)) else (none)) else (none))) else (none)) else (none)) else (if 0 ≤ x3 then (if x3 ≤ (x0.length : Int) then ((spec_l00Own.f (x0.take (x3 : Int).toNat)).bind fun t151 => (some t151)) else (none)) else (none)) := by
  refine IsLim.unique (spec_l03Trim.l0lim _ _) ?_
  refine IsLim.shift (by rfl) ?_
  simp only [spec_l03Trim.l0]
  repeat' (first | exact IsLim.const _ | refine IsLim.ite ?_ ?_ | refine IsLim.bind ?_ (fun _ => ?_) | exact spec_l03Trim.l0lim ..)
noncomputable def spec_l03Trim.d (l0 : List Int) : Option (List Int) := lim (fun k => spec_l03Trim.f k l0)
theorem spec_l03Trim.lim (l0 : List Int) : IsLim (fun k => spec_l03Trim.f k l0) (spec_l03Trim.d l0) := lim_spec (fun k => spec_l03Trim.mono l0 k)
theorem spec_l03Trim.d_eq (l0 : List Int) : spec_l03Trim.d l0 = spec_l03Trim.l0d l0 (l0.length : Int) := by
  refine IsLim.unique (spec_l03Trim.lim _) ?_
  unfold spec_l03Trim.f
  repeat' (first | exact IsLim.const _ | refine IsLim.ite ?_ ?_ | refine IsLim.bind ?_ (fun _ => ?_) | exact spec_l03Trim.l0lim ..)
end Go.Proofs.Ytkhjoomjjdgkjaa.P
end
section
namespace Go.Proofs.Ytkhjoomjjdgkjaa.P
open Go.RowKit Go.Proofs.YtkhjoomjjdgkjaaW.PrintWords Go.Proofs.YtkhjoomjjdgkjaaW.PrintLast Go.Proofs.YtkhjoomjjdgkjaaW.PrintMore
set_option linter.unusedVariables false
set_option linter.unusedSimpArgs false
noncomputable def impl_degreeOf.l0d (x0 : Int) (x3 : Int) : Option (Int) := lim (fun k => impl_degreeOf.l0 k x0 x3)
theorem impl_degreeOf.l0lim (x0 : Int) (x3 : Int) : IsLim (fun k => impl_degreeOf.l0 k x0 x3) (impl_degreeOf.l0d x0 x3) := lim_spec (fun k => (impl_degreeOf.mono_l k) x0 x3)
theorem impl_degreeOf.l0d_eq (x0 : Int) (x3 : Int) : impl_degreeOf.l0d x0 x3 = if x0 > 0 then (impl_degreeOf.l0d (x0 / 2) (wrap64 (x3 + 1))) else (some x3) := by
  refine IsLim.unique (impl_degreeOf.l0lim _ _) ?_
  refine IsLim.shift (by rfl) ?_
  simp only [impl_degreeOf.l0]
  repeat' (first | exact IsLim.const _ | refine IsLim.ite ?_ ?_ | refine IsLim.bind ?_ (fun _ => ?_) | exact impl_degreeOf.l0lim ..)
noncomputable def impl_degreeOf.d (a0 : Int) : Option (Int) := lim (fun k => impl_degreeOf.f k a0)
theorem impl_degreeOf.lim (a0 : Int) : IsLim (fun k => impl_degreeOf.f k a0) (impl_degreeOf.d a0) := lim_spec (fun k => impl_degreeOf.mono a0 k)
theorem impl_degreeOf.d_eq (a0 : Int) : impl_degreeOf.d a0 = impl_degreeOf.l0d a0 (-1) := by
  refine IsLim.unique (impl_degreeOf.lim _) ?_
  unfold impl_degreeOf.f
  repeat' (first | exact IsLim.const _ | refine IsLim.ite ?_ ?_ | refine IsLim.bind ?_ (fun _ => ?_) | exact impl_degreeOf.l0lim ..)
noncomputable def impl_restOf.l0d (x0 : Int) (x1 : Int) (x5 : Int) : Option (Int) := lim (fun k => impl_restOf.l0 k x0 x1 x5)
theorem impl_restOf.l0lim (x0 : Int) (x1 : Int) (x5 : Int) : IsLim (fun k => impl_restOf.l0 k x0 x1 x5) (impl_restOf.l0d x0 x1 x5) := lim_spec (fun k => (impl_restOf.mono_l k) x0 x1 x5)
theorem impl_restOf.l0d_eq (x0 : Int) (x1 : Int) (x5 : Int) : impl_restOf.l0d x0 x1 x5 = (impl_degreeOf.d x0).bind fun t229 => (if t229 ≥ x5 then ((impl_degreeOf.d x0).bind fun t230 => (if 0 ≤ (wrap64 (t230 - x5)) then (impl_restOf.l0d (Go.bits .xor .i64 x0 (shl .i64 x1 (wrap64 (t230 - x5)))) x1 x5) else (none))) else (some x0)) := by
  refine IsLim.unique (impl_restOf.l0lim _ _ _) ?_
  refine IsLim.shift (by rfl) ?_
  simp only [impl_restOf.l0]
  repeat' (first | exact IsLim.const _ | refine IsLim.ite ?_ ?_ | refine IsLim.bind ?_ (fun _ => ?_) | exact impl_degreeOf.lim .. | exact impl_restOf.l0lim ..)
noncomputable def impl_restOf.d (a0 : Int) (a1 : Int) : Option (Int) := lim (fun k => impl_restOf.f k a0 a1)
theorem impl_restOf.lim (a0 : Int) (a1 : Int) : IsLim (fun k => impl_restOf.f k a0 a1) (impl_restOf.d a0 a1) := lim_spec (fun k => impl_restOf.mono a0 a1 k)
theorem impl_restOf.d_eq (a0 : Int) (a1 : Int) : impl_restOf.d a0 a1 = (impl_degreeOf.d a1).bind fun t228 => (impl_restOf.l0d a0 a1 t228) := by
  refine IsLim.unique (impl_restOf.lim _ _) ?_
  unfold impl_restOf.f
  repeat' (first | exact IsLim.const _ | refine IsLim.ite ?_ ?_ | refine IsLim.bind ?_ (fun _ => ?_) | exact impl_degreeOf.lim .. | exact impl_restOf.l0lim ..)
noncomputable def impl_IsIrreducible.j0d (x0 : Int) (x9 : Bool) : Option (Bool) := lim (fun k => impl_IsIrreducible.j0 k x0 x9)
theorem impl_IsIrreducible.j0lim (x0 : Int) (x9 : Bool) : IsLim (fun k => impl_IsIrreducible.j0 k x0 x9) (impl_IsIrreducible.j0d x0 x9) := lim_spec (fun k => (impl_IsIrreducible.mono_l k).1 x0 x9)
noncomputable def impl_IsIrreducible.l0d (x0 : Int) (x3 : Int) : Option (Bool) := lim (fun k => impl_IsIrreducible.l0 k x0 x3)
theorem impl_IsIrreducible.l0lim (x0 : Int) (x3 : Int) : IsLim (fun k => impl_IsIrreducible.l0 k x0 x3) (impl_IsIrreducible.l0d x0 x3) := lim_spec (fun k => (impl_IsIrreducible.mono_l k).2 x0 x3)
theorem impl_IsIrreducible.j0d_eq (x0 : Int) (x9 : Bool) : impl_IsIrreducible.j0d x0 x9 = if x9 = true then (some false) else (impl_IsIrreducible.l0d x0 2) := by
  refine IsLim.unique (impl_IsIrreducible.j0lim _ _) ?_
  refine IsLim.shift (by rfl) ?_
  simp only [impl_IsIrreducible.j0]
  repeat' (first | exact IsLim.const _ | refine IsLim.ite ?_ ?_ | refine IsLim.bind ?_ (fun _ => ?_) | exact impl_IsIrreducible.l0lim ..)
noncomputable def impl_IsIrreducible.d (a0 : Int) : Option (Bool) := lim (fun k => impl_IsIrreducible.f k a0)
theorem impl_IsIrreducible.lim (a0 : Int) : IsLim (fun k => impl_IsIrreducible.f k a0) (impl_IsIrreducible.d a0) := lim_spec (fun k => impl_IsIrreducible.mono a0 k)
theorem impl_IsIrreducible.d_eq (a0 : Int) : impl_IsIrreducible.d a0 = if a0 < 2 then (impl_IsIrreducible.j0d a0 true) else (impl_IsIrreducible.j0d a0 (decide (a0 ≥ 64))) := by
  refine IsLim.unique (impl_IsIrreducible.lim _) ?_
  unfold impl_IsIrreducible.f
  repeat' (first | exact IsLim.const _ | refine IsLim.ite ?_ ?_ | refine IsLim.bind ?_ (fun _ => ?_) | exact impl_IsIrreducible.j0lim ..)
noncomputable def impl_ValidField.d (a0_0 : Int) (a0_1 : Int) : Option (Bool) := lim (fun k => impl_ValidField.f k a0_0 a0_1)
theorem impl_ValidField.lim (a0_0 : Int) (a0_1 : Int) : IsLim (fun k => impl_ValidField.f k a0_0 a0_1) (impl_ValidField.d a0_0 a0_1) := lim_spec (fun k => impl_ValidField.mono a0_0 a0_1 k)
theorem impl_ValidField.d_eq (a0_0 : Int) (a0_1 : Int) : impl_ValidField.d a0_0 a0_1 = (impl_within.f a0_0 1 5).bind fun t235 => (if t235 = true then ((impl_IsIrreducible.d a0_1).bind fun t236 => (if t236 = true then ((impl_degreeOf.d a0_1).bind fun t237 => (some (t237 == a0_0))) else (some false))) else (some false)) := by
  refine IsLim.unique (impl_ValidField.lim _ _) ?_
  unfold impl_ValidField.f
  repeat' (first | exact IsLim.const _ | refine IsLim.ite ?_ ?_ | refine IsLim.bind ?_ (fun _ => ?_) | exact impl_IsIrreducible.lim .. | exact impl_degreeOf.lim ..)
noncomputable def slices_IndexFunc_int64_int64_AT_impl_Field_has_1.l0d (x0 : List Int) (x7 : Int) (x8 : Int) (x49000 : Int) (x49001 : Int) : Option (Int) := lim (fun k => slices_IndexFunc_int64_int64_AT_impl_Field_has_1.l0 k x0 x7 x8 x49000 x49001)
theorem slices_IndexFunc_int64_int64_AT_impl_Field_has_1.l0lim (x0 : List Int) (x7 : Int) (x8 : Int) (x49000 : Int) (x49001 : Int) : IsLim (fun k => slices_IndexFunc_int64_int64_AT_impl_Field_has_1.l0 k x0 x7 x8 x49000 x49001) (slices_IndexFunc_int64_int64_AT_impl_Field_has_1.l0d x0 x7 x8 x49000 x49001) := lim_spec (fun k => (slices_IndexFunc_int64_int64_AT_impl_Field_has_1.mono_l k) x0 x7 x8 x49000 x49001)
theorem slices_IndexFunc_int64_int64_AT_impl_Field_has_1.l0d_eq (x0 : List Int) (x7 : Int) (x8 : Int) (x49000 : Int) (x49001 : Int) : slices_IndexFunc_int64_int64_AT_impl_Field_has_1.l0d x0 x7 x8 x49000 x49001 = if x8 < x7 then (if 0 ≤ x8 then (if x8 < (x0.length : Int) then ((impl_Field_has_1.f (rd x0 x8) x49000 x49001).bind fun t242 => (if t242 = true then (some x8) else (slices_IndexFunc_int64_int64_AT_impl_Field_has_1.l0d x0 x7 (wrap64 (x8 + 1)) x49000 x49001))) else (none)) else (none)) else (some (-1)) := by
  refine IsLim.unique (slices_IndexFunc_int64_int64_AT_impl_Field_has_1.l0lim _ _ _ _ _) ?_
  refine IsLim.shift (by rfl) ?_
  simp only [slices_IndexFunc_int64_int64_AT_impl_Field_has_1.l0]
  repeat' (first | exact IsLim.const _ | refine IsLim.ite ?_ ?_ | refine IsLim.bind ?_ (fun _ => ?_) | exact slices_IndexFunc_int64_int64_AT_impl_Field_has_1.l0lim ..)
noncomputable def slices_IndexFunc_int64_int64_AT_impl_Field_has_1.d (l0 : List Int) (a1_0 : Int) (a1_1 : Int) : Option (Int) := lim (fun k => slices_IndexFunc_int64_int64_AT_impl_Field_has_1.f k l0 a1_0 a1_1)
theorem slices_IndexFunc_int64_int64_AT_impl_Field_has_1.lim (l0 : List Int) (a1_0 : Int) (a1_1 : Int) : IsLim (fun k => slices_IndexFunc_int64_int64_AT_impl_Field_has_1.f k l0 a1_0 a1_1) (slices_IndexFunc_int64_int64_AT_impl_Field_has_1.d l0 a1_0 a1_1) := lim_spec (fun k => slices_IndexFunc_int64_int64_AT_impl_Field_has_1.mono l0 a1_0 a1_1 k)
theorem slices_IndexFunc_int64_int64_AT_impl_Field_has_1.d_eq (l0 : List Int) (a1_0 : Int) (a1_1 : Int) : slices_IndexFunc_int64_int64_AT_impl_Field_has_1.d l0 a1_0 a1_1 = slices_IndexFunc_int64_int64_AT_impl_Field_has_1.l0d l0 (l0.length : Int) 0 a1_0 a1_1 := by
  refine IsLim.unique (slices_IndexFunc_int64_int64_AT_impl_Field_has_1.lim _ _ _) ?_
  unfold slices_IndexFunc_int64_int64_AT_impl_Field_has_1.f
  repeat' (first | exact IsLim.const _ | refine IsLim.ite ?_ ?_ | refine IsLim.bind ?_ (fun _ => ?_) | exact slices_IndexFunc_int64_int64_AT_impl_Field_has_1.l0lim ..)
noncomputable def slices_ContainsFunc_int64_int64_AT_impl_Field_has_1.d (l0 : List Int) (a1_0 : Int) (a1_1 : Int) : Option (Bool) := lim (fun k => slices_ContainsFunc_int64_int64_AT_impl_Field_has_1.f k l0 a1_0 a1_1)
theorem slices_ContainsFunc_int64_int64_AT_impl_Field_has_1.lim (l0 : List Int) (a1_0 : Int) (a1_1 : Int) : IsLim (fun k => slices_ContainsFunc_int64_int64_AT_impl_Field_has_1.f k l0 a1_0 a1_1) (slices_ContainsFunc_int64_int64_AT_impl_Field_has_1.d l0 a1_0 a1_1) := lim_spec (fun k => slices_ContainsFunc_int64_int64_AT_impl_Field_has_1.mono l0 a1_0 a1_1 k)
theorem slices_ContainsFunc_int64_int64_AT_impl_Field_has_1.d_eq (l0 : List Int) (a1_0 : Int) (a1_1 : Int) : slices_ContainsFunc_int64_int64_AT_impl_Field_has_1.d l0 a1_0 a1_1 = (slices_IndexFunc_int64_int64_AT_impl_Field_has_1.d l0 a1_0 a1_1).bind fun t243 => (some (decide (t243 ≥ 0))) := by
  refine IsLim.unique (slices_ContainsFunc_int64_int64_AT_impl_Field_has_1.lim _ _ _) ?_
  unfold slices_ContainsFunc_int64_int64_AT_impl_Field_has_1.f
  repeat' (first | exact IsLim.const _ | refine IsLim.ite ?_ ?_ | refine IsLim.bind ?_ (fun _ => ?_) | exact slices_IndexFunc_int64_int64_AT_impl_Field_has_1.lim ..)
end Go.Proofs.Ytkhjoomjjdgkjaa.P
end
section
namespace Go.Proofs.Ytkhjoomjjdgkjaa.P
open Go.RowKit Go.Proofs.YtkhjoomjjdgkjaaW.PrintWords Go.Proofs.YtkhjoomjjdgkjaaW.PrintLast Go.Proofs.YtkhjoomjjdgkjaaW.PrintMore
set_option linter.unusedVariables false
set_option linter.unusedSimpArgs false
noncomputable def impl_Field_has.d (a0_0 : Int) (a0_1 : Int) (l1 : List Int) : Option (Bool) := lim (fun k => impl_Field_has.f k a0_0 a0_1 l1)
theorem impl_Field_has.lim (a0_0 : Int) (a0_1 : Int) (l1 : List Int) : IsLim (fun k => impl_Field_has.f k a0_0 a0_1 l1) (impl_Field_has.d a0_0 a0_1 l1) := lim_spec (fun k => impl_Field_has.mono a0_0 a0_1 l1 k)
theorem impl_Field_has.d_eq (a0_0 : Int) (a0_1 : Int) (l1 : List Int) : impl_Field_has.d a0_0 a0_1 l1 = (slices_ContainsFunc_int64_int64_AT_impl_Field_has_1.d l1 a0_0 a0_1).bind fun t245 => (some (!t245)) := by
  refine IsLim.unique (impl_Field_has.lim _ _ _) ?_
  unfold impl_Field_has.f
  repeat' (first | exact IsLim.const _ | refine IsLim.ite ?_ ?_ | refine IsLim.bind ?_ (fun _ => ?_) | exact slices_ContainsFunc_int64_int64_AT_impl_Field_has_1.lim ..)
noncomputable def impl_Field_isLinear.d (a0_0 : Int) (a0_1 : Int) (l1 : List Int) : Option (Bool) := lim (fun k => impl_Field_isLinear.f k a0_0 a0_1 l1)
theorem impl_Field_isLinear.lim (a0_0 : Int) (a0_1 : Int) (l1 : List Int) : IsLim (fun k => impl_Field_isLinear.f k a0_0 a0_1 l1) (impl_Field_isLinear.d a0_0 a0_1 l1) := lim_spec (fun k => impl_Field_isLinear.mono a0_0 a0_1 l1 k)
theorem impl_Field_isLinear.d_eq (a0_0 : Int) (a0_1 : Int) (l1 : List Int) : impl_Field_isLinear.d a0_0 a0_1 l1 = if (l1.length : Int) ≤ 12 then ((impl_Field_has.d a0_0 a0_1 l1).bind fun t247 => (if t247 = true then (if (l1.length : Int) = 0 then (some true) else (if 0 ≤ (wrap64 ((l1.length : Int) - 1)) then (if (wrap64 ((l1.length : Int) - 1)) < (l1.length : Int) then (some ((rd l1 (wrap64 ((l1.length : Int) - 1))) != 0)) else (none)) else (none))) else (some false))) else (some false) := by
  refine IsLim.unique (impl_Field_isLinear.lim _ _ _) ?_
  unfold impl_Field_isLinear.f
  repeat' (first | exact IsLim.const _ | refine IsLim.ite ?_ ?_ | refine IsLim.bind ?_ (fun _ => ?_) | exact impl_Field_has.lim ..)
noncomputable def impl_Field_linearCode_1.d (l0 : List Int) (a1_0 : Int) (a1_1 : Int) : Option (Bool) := lim (fun k => impl_Field_linearCode_1.f k l0 a1_0 a1_1)
theorem impl_Field_linearCode_1.lim (l0 : List Int) (a1_0 : Int) (a1_1 : Int) : IsLim (fun k => impl_Field_linearCode_1.f k l0 a1_0 a1_1) (impl_Field_linearCode_1.d l0 a1_0 a1_1) := lim_spec (fun k => impl_Field_linearCode_1.mono l0 a1_0 a1_1 k)
theorem impl_Field_linearCode_1.d_eq (l0 : List Int) (a1_0 : Int) (a1_1 : Int) : impl_Field_linearCode_1.d l0 a1_0 a1_1 = (impl_Field_isLinear.d a1_0 a1_1 l0).bind fun t249 => (some (!t249)) := by
  refine IsLim.unique (impl_Field_linearCode_1.lim _ _ _) ?_
  unfold impl_Field_linearCode_1.f
  repeat' (first | exact IsLim.const _ | refine IsLim.ite ?_ ?_ | refine IsLim.bind ?_ (fun _ => ?_) | exact impl_Field_isLinear.lim ..)
noncomputable def slices_IndexFunc_int64_int64_AT_impl_Field_linearCode_1.l0d (x0 : List (List Int)) (x7 : Int) (x8 : Int) (x49000 : Int) (x49001 : Int) : Option (Int) := lim (fun k => slices_IndexFunc_int64_int64_AT_impl_Field_linearCode_1.l0 k x0 x7 x8 x49000 x49001)
theorem slices_IndexFunc_int64_int64_AT_impl_Field_linearCode_1.l0lim (x0 : List (List Int)) (x7 : Int) (x8 : Int) (x49000 : Int) (x49001 : Int) : IsLim (fun k => slices_IndexFunc_int64_int64_AT_impl_Field_linearCode_1.l0 k x0 x7 x8 x49000 x49001) (slices_IndexFunc_int64_int64_AT_impl_Field_linearCode_1.l0d x0 x7 x8 x49000 x49001) := lim_spec (fun k => (slices_IndexFunc_int64_int64_AT_impl_Field_linearCode_1.mono_l k) x0 x7 x8 x49000 x49001)
theorem slices_IndexFunc_int64_int64_AT_impl_Field_linearCode_1.l0d_eq (x0 : List (List Int)) (x7 : Int) (x8 : Int) (x49000 : Int) (x49001 : Int) : slices_IndexFunc_int64_int64_AT_impl_Field_linearCode_1.l0d x0 x7 x8 x49000 x49001 = if x8 < x7 then (if 0 ≤ x8 then (if x8 < (x0.length : Int) then ((impl_Field_linearCode_1.d (rd_L1 x0 x8) x49000 x49001).bind fun t251 => (if t251 = true then (some x8) else (slices_IndexFunc_int64_int64_AT_impl_Field_linearCode_1.l0d x0 x7 (wrap64 (x8 + 1)) x49000 x49001))) else (none)) else (none)) else (some (-1)) := by
  refine IsLim.unique (slices_IndexFunc_int64_int64_AT_impl_Field_linearCode_1.l0lim _ _ _ _ _) ?_
  refine IsLim.shift (by rfl) ?_
  simp only [slices_IndexFunc_int64_int64_AT_impl_Field_linearCode_1.l0]
  repeat' (first | exact IsLim.const _ | refine IsLim.ite ?_ ?_ | refine IsLim.bind ?_ (fun _ => ?_) | exact impl_Field_linearCode_1.lim .. | exact slices_IndexFunc_int64_int64_AT_impl_Field_linearCode_1.l0lim ..)
noncomputable def slices_IndexFunc_int64_int64_AT_impl_Field_linearCode_1.d (l0 : List (List Int)) (a1_0 : Int) (a1_1 : Int) : Option (Int) := lim (fun k => slices_IndexFunc_int64_int64_AT_impl_Field_linearCode_1.f k l0 a1_0 a1_1)
theorem slices_IndexFunc_int64_int64_AT_impl_Field_linearCode_1.lim (l0 : List (List Int)) (a1_0 : Int) (a1_1 : Int) : IsLim (fun k => slices_IndexFunc_int64_int64_AT_impl_Field_linearCode_1.f k l0 a1_0 a1_1) (slices_IndexFunc_int64_int64_AT_impl_Field_linearCode_1.d l0 a1_0 a1_1) := lim_spec (fun k => slices_IndexFunc_int64_int64_AT_impl_Field_linearCode_1.mono l0 a1_0 a1_1 k)
theorem slices_IndexFunc_int64_int64_AT_impl_Field_linearCode_1.d_eq (l0 : List (List Int)) (a1_0 : Int) (a1_1 : Int) : slices_IndexFunc_int64_int64_AT_impl_Field_linearCode_1.d l0 a1_0 a1_1 = slices_IndexFunc_int64_int64_AT_impl_Field_linearCode_1.l0d l0 (l0.length : Int) 0 a1_0 a1_1 := by
  refine IsLim.unique (slices_IndexFunc_int64_int64_AT_impl_Field_linearCode_1.lim _ _ _) ?_
  unfold slices_IndexFunc_int64_int64_AT_impl_Field_linearCode_1.f
  repeat' (first | exact IsLim.const _ | refine IsLim.ite ?_ ?_ | refine IsLim.bind ?_ (fun _ => ?_) | exact slices_IndexFunc_int64_int64_AT_impl_Field_linearCode_1.l0lim ..)
noncomputable def slices_ContainsFunc_int64_int64_AT_impl_Field_linearCode_1.d (l0 : List (List Int)) (a1_0 : Int) (a1_1 : Int) : Option (Bool) := lim (fun k => slices_ContainsFunc_int64_int64_AT_impl_Field_linearCode_1.f k l0 a1_0 a1_1)
theorem slices_ContainsFunc_int64_int64_AT_impl_Field_linearCode_1.lim (l0 : List (List Int)) (a1_0 : Int) (a1_1 : Int) : IsLim (fun k => slices_ContainsFunc_int64_int64_AT_impl_Field_linearCode_1.f k l0 a1_0 a1_1) (slices_ContainsFunc_int64_int64_AT_impl_Field_linearCode_1.d l0 a1_0 a1_1) := lim_spec (fun k => slices_ContainsFunc_int64_int64_AT_impl_Field_linearCode_1.mono l0 a1_0 a1_1 k)
theorem slices_ContainsFunc_int64_int64_AT_impl_Field_linearCode_1.d_eq (l0 : List (List Int)) (a1_0 : Int) (a1_1 : Int) : slices_ContainsFunc_int64_int64_AT_impl_Field_linearCode_1.d l0 a1_0 a1_1 = (slices_IndexFunc_int64_int64_AT_impl_Field_linearCode_1.d l0 a1_0 a1_1).bind fun t252 => (some (decide (t252 ≥ 0))) := by
  refine IsLim.unique (slices_ContainsFunc_int64_int64_AT_impl_Field_linearCode_1.lim _ _ _) ?_
  unfold slices_ContainsFunc_int64_int64_AT_impl_Field_linearCode_1.f
  repeat' (first | exact IsLim.const _ | refine IsLim.ite ?_ ?_ | refine IsLim.bind ?_ (fun _ => ?_) | exact slices_IndexFunc_int64_int64_AT_impl_Field_linearCode_1.lim ..)
noncomputable def impl_Field_linearCode.d (a0_0 : Int) (a0_1 : Int) (l1 : List (List Int)) : Option (Int) := lim (fun k => impl_Field_linearCode.f k a0_0 a0_1 l1)
theorem impl_Field_linearCode.lim (a0_0 : Int) (a0_1 : Int) (l1 : List (List Int)) : IsLim (fun k => impl_Field_linearCode.f k a0_0 a0_1 l1) (impl_Field_linearCode.d a0_0 a0_1 l1) := lim_spec (fun k => impl_Field_linearCode.mono a0_0 a0_1 l1 k)
theorem impl_Field_linearCode.d_eq (a0_0 : Int) (a0_1 : Int) (l1 : List (List Int)) : impl_Field_linearCode.d a0_0 a0_1 l1 = (impl_ValidField.d a0_0 a0_1).bind fun t254 => (if t254 = true then ((slices_ContainsFunc_int64_int64_AT_impl_Field_linearCode_1.d l1 a0_0 a0_1).bind fun t255 => (if t255 = true then (some 1) else (some 0))) else (some 1)) := by
  refine IsLim.unique (impl_Field_linearCode.lim _ _ _) ?_
  unfold impl_Field_linearCode.f
  repeat' (first | exact IsLim.const _ | refine IsLim.ite ?_ ?_ | refine IsLim.bind ?_ (fun _ => ?_) | exact impl_ValidField.lim .. | exact slices_ContainsFunc_int64_int64_AT_impl_Field_linearCode_1.lim ..)
noncomputable def impl_product.l0d (x0 : Int) (x1 : Int) (x5 : Int) : Option (Int) := lim (fun k => impl_product.l0 k x0 x1 x5)
theorem impl_product.l0lim (x0 : Int) (x1 : Int) (x5 : Int) : IsLim (fun k => impl_product.l0 k x0 x1 x5) (impl_product.l0d x0 x1 x5) := lim_spec (fun k => (impl_product.mono_l k) x0 x1 x5)
theorem impl_product.l0d_eq (x0 : Int) (x1 : Int) (x5 : Int) : impl_product.l0d x0 x1 x5 = if x1 > 0 then (if (Go.bits .and .i64 x1 1) = 1 then (impl_product.l0d (wrap64 (x0 * 2)) (x1 / 2) (Go.bits .xor .i64 x5 x0)) else (impl_product.l0d (wrap64 (x0 * 2)) (x1 / 2) x5)) else (some x5) := by
  refine IsLim.unique (impl_product.l0lim _ _ _) ?_
  refine IsLim.shift (by rfl) ?_
  simp only [impl_product.l0]
  repeat' (first | exact IsLim.const _ | refine IsLim.ite ?_ ?_ | refine IsLim.bind ?_ (fun _ => ?_) | exact impl_product.l0lim ..)
noncomputable def impl_product.d (a0 : Int) (a1 : Int) : Option (Int) := lim (fun k => impl_product.f k a0 a1)
theorem impl_product.lim (a0 : Int) (a1 : Int) : IsLim (fun k => impl_product.f k a0 a1) (impl_product.d a0 a1) := lim_spec (fun k => impl_product.mono a0 a1 k)
theorem impl_product.d_eq (a0 : Int) (a1 : Int) : impl_product.d a0 a1 = impl_product.l0d a0 a1 0 := by
  refine IsLim.unique (impl_product.lim _ _) ?_
  unfold impl_product.f
  repeat' (first | exact IsLim.const _ | refine IsLim.ite ?_ ?_ | refine IsLim.bind ?_ (fun _ => ?_) | exact impl_product.l0lim ..)
noncomputable def impl_Field_mul.d (a0_0 : Int) (a0_1 : Int) (a1 : Int) (a2 : Int) : Option (Int) := lim (fun k => impl_Field_mul.f k a0_0 a0_1 a1 a2)
theorem impl_Field_mul.lim (a0_0 : Int) (a0_1 : Int) (a1 : Int) (a2 : Int) : IsLim (fun k => impl_Field_mul.f k a0_0 a0_1 a1 a2) (impl_Field_mul.d a0_0 a0_1 a1 a2) := lim_spec (fun k => impl_Field_mul.mono a0_0 a0_1 a1 a2 k)
theorem impl_Field_mul.d_eq (a0_0 : Int) (a0_1 : Int) (a1 : Int) (a2 : Int) : impl_Field_mul.d a0_0 a0_1 a1 a2 = (impl_product.d a1 a2).bind fun t257 => ((impl_restOf.d t257 a0_1).bind fun t258 => (some t258)) := by
  refine IsLim.unique (impl_Field_mul.lim _ _ _ _) ?_
  unfold impl_Field_mul.f
  repeat' (first | exact IsLim.const _ | refine IsLim.ite ?_ ?_ | refine IsLim.bind ?_ (fun _ => ?_) | exact impl_product.lim .. | exact impl_restOf.lim ..)
end Go.Proofs.Ytkhjoomjjdgkjaa.P
end
section
namespace Go.Proofs.Ytkhjoomjjdgkjaa.P
open Go.RowKit Go.Proofs.YtkhjoomjjdgkjaaW.PrintWords Go.Proofs.YtkhjoomjjdgkjaaW.PrintLast Go.Proofs.YtkhjoomjjdgkjaaW.PrintMore
set_option linter.unusedVariables false
set_option linter.unusedSimpArgs false
noncomputable def impl_Field_square.l0d (x1 : Int) (x10 : Int) (x11 : Int) (x260000 : Int) (x260001 : Int) : Option (Int) := lim (fun k => impl_Field_square.l0 k x1 x10 x11 x260000 x260001)
theorem impl_Field_square.l0lim (x1 : Int) (x10 : Int) (x11 : Int) (x260000 : Int) (x260001 : Int) : IsLim (fun k => impl_Field_square.l0 k x1 x10 x11 x260000 x260001) (impl_Field_square.l0d x1 x10 x11 x260000 x260001) := lim_spec (fun k => (impl_Field_square.mono_l k) x1 x10 x11 x260000 x260001)
theorem impl_Field_square.l0d_eq (x1 : Int) (x10 : Int) (x11 : Int) (x260000 : Int) (x260001 : Int) : impl_Field_square.l0d x1 x10 x11 x260000 x260001 = if x11 < x10 then ((impl_Field_mul.d x260000 x260001 x1 x1).bind fun t260 => (impl_Field_square.l0d t260 x10 (wrap64 (x11 + 1)) x260000 x260001)) else (some x1) := by
  refine IsLim.unique (impl_Field_square.l0lim _ _ _ _ _) ?_
  refine IsLim.shift (by rfl) ?_
  simp only [impl_Field_square.l0]
  repeat' (first | exact IsLim.const _ | refine IsLim.ite ?_ ?_ | refine IsLim.bind ?_ (fun _ => ?_) | exact impl_Field_mul.lim .. | exact impl_Field_square.l0lim ..)
noncomputable def impl_Field_square.d (a0_0 : Int) (a0_1 : Int) (a1 : Int) (a2 : Int) : Option (Int) := lim (fun k => impl_Field_square.f k a0_0 a0_1 a1 a2)
theorem impl_Field_square.lim (a0_0 : Int) (a0_1 : Int) (a1 : Int) (a2 : Int) : IsLim (fun k => impl_Field_square.f k a0_0 a0_1 a1 a2) (impl_Field_square.d a0_0 a0_1 a1 a2) := lim_spec (fun k => impl_Field_square.mono a0_0 a0_1 a1 a2 k)
theorem impl_Field_square.d_eq (a0_0 : Int) (a0_1 : Int) (a1 : Int) (a2 : Int) : impl_Field_square.d a0_0 a0_1 a1 a2 = if a0_0 = 0 then (none) else (impl_Field_square.l0d a1 (Int.tmod a2 a0_0) 0 a0_0 a0_1) := by
  refine IsLim.unique (impl_Field_square.lim _ _ _ _) ?_
  unfold impl_Field_square.f
  repeat' (first | exact IsLim.const _ | refine IsLim.ite ?_ ?_ | refine IsLim.bind ?_ (fun _ => ?_) | exact impl_Field_square.l0lim ..)
noncomputable def impl_trim.l0d (x0 : List Int) : Option (List Int) := lim (fun k => impl_trim.l0 k x0)
theorem impl_trim.l0lim (x0 : List Int) : IsLim (fun k => impl_trim.l0 k x0) (impl_trim.l0d x0) := lim_spec (fun k => (impl_trim.mono_l k) x0)
theorem impl_trim.l0d_eq (x0 : List Int) : impl_trim.l0d x0 = if (x0.length : Int) > 0 then (if 0 ≤ (wrap64 ((x0.length : Int) - 1)) then (if (wrap64 ((x0.length : Int) - 1)) < (x0.length : Int) then (if (rd x0 (wrap64 ((x0.length : Int) - 1))) = 0 then (if (wrap64 ((x0.length : Int) - 1)) ≤ (x0.length : Int) then (impl_trim.l0d (x0.take ((wrap64 ((x0.length : Int) - 1)) : Int).toNat)) else (none)) else (some x0)) else (none)) else (none)) else (some x0) := by
  refine IsLim.unique (impl_trim.l0lim _) ?_
  refine IsLim.shift (by rfl) ?_
  simp only [impl_trim.l0]
  repeat' (first | exact IsLim.const _ | refine IsLim.ite ?_ ?_ | refine IsLim.bind ?_ (fun _ => ?_) | exact impl_trim.l0lim ..)
noncomputable def impl_trim.d (l0 : List Int) : Option (List Int) := lim (fun k => impl_trim.f k l0)
theorem impl_trim.lim (l0 : List Int) : IsLim (fun k => impl_trim.f k l0) (impl_trim.d l0) := lim_spec (fun k => impl_trim.mono l0 k)
theorem impl_trim.d_eq (l0 : List Int) : impl_trim.d l0 = impl_trim.l0d l0 := by
  refine IsLim.unique (impl_trim.lim _) ?_
  unfold impl_trim.f
  repeat' (first | exact IsLim.const _ | refine IsLim.ite ?_ ?_ | refine IsLim.bind ?_ (fun _ => ?_) | exact impl_trim.l0lim ..)
end Go.Proofs.Ytkhjoomjjdgkjaa.P
end
section
namespace Go.Proofs.Ytkhjoomjjdgkjaa.P
open Go.RowKit Go.Proofs.YtkhjoomjjdgkjaaW.PrintWords Go.Proofs.YtkhjoomjjdgkjaaW.PrintLast Go.Proofs.YtkhjoomjjdgkjaaW.PrintMore
set_option linter.unusedVariables false
set_option linter.unusedSimpArgs false
noncomputable def impl_Field_compose.j0d (x1 : List Int) (x2 : List Int) (x19 : Bool) (x266000 : Int) (x266001 : Int) : Option (List Int) := lim (fun k => impl_Field_compose.j0 k x1 x2 x19 x266000 x266001)
theorem impl_Field_compose.j0lim (x1 : List Int) (x2 : List Int) (x19 : Bool) (x266000 : Int) (x266001 : Int) : IsLim (fun k => impl_Field_compose.j0 k x1 x2 x19 x266000 x266001) (impl_Field_compose.j0d x1 x2 x19 x266000 x266001) := lim_spec (fun k => (impl_Field_compose.mono_l k).1 x1 x2 x19 x266000 x266001)
noncomputable def impl_Field_compose.l0d (x2 : List Int) (x7 : List Int) (x27 : List Int) (x28 : Int) (x29 : Int) (x266000 : Int) (x266001 : Int) : Option (List Int) := lim (fun k => impl_Field_compose.l0 k x2 x7 x27 x28 x29 x266000 x266001)
theorem impl_Field_compose.l0lim (x2 : List Int) (x7 : List Int) (x27 : List Int) (x28 : Int) (x29 : Int) (x266000 : Int) (x266001 : Int) : IsLim (fun k => impl_Field_compose.l0 k x2 x7 x27 x28 x29 x266000 x266001) (impl_Field_compose.l0d x2 x7 x27 x28 x29 x266000 x266001) := lim_spec (fun k => (impl_Field_compose.mono_l k).2.1 x2 x7 x27 x28 x29 x266000 x266001)
noncomputable def impl_Field_compose.l1d (x2 : List Int) (x7 : List Int) (x8 : Int) (x9 : Int) (x27 : List Int) (x28 : Int) (x29 : Int) (x34 : List Int) (x35 : Int) (x36 : Int) (x266000 : Int) (x266001 : Int) : Option (List Int) := lim (fun k => impl_Field_compose.l1 k x2 x7 x8 x9 x27 x28 x29 x34 x35 x36 x266000 x266001)
theorem impl_Field_compose.l1lim (x2 : List Int) (x7 : List Int) (x8 : Int) (x9 : Int) (x27 : List Int) (x28 : Int) (x29 : Int) (x34 : List Int) (x35 : Int) (x36 : Int) (x266000 : Int) (x266001 : Int) : IsLim (fun k => impl_Field_compose.l1 k x2 x7 x8 x9 x27 x28 x29 x34 x35 x36 x266000 x266001) (impl_Field_compose.l1d x2 x7 x8 x9 x27 x28 x29 x34 x35 x36 x266000 x266001) := lim_spec (fun k => (impl_Field_compose.mono_l k).2.2 x2 x7 x8 x9 x27 x28 x29 x34 x35 x36 x266000 x266001)
theorem impl_Field_compose.j0d_eq (x1 : List Int) (x2 : List Int) (x19 : Bool) (x266000 : Int) (x266001 : Int) : impl_Field_compose.j0d x1 x2 x19 x266000 x266001 = if x19 = true then (some ([] : List Int)) else (if 0 ≤ (wrap64 ((wrap64 ((x1.length : Int) + (x2.length : Int))) - 1)) then (if (wrap64 ((wrap64 ((x1.length : Int) + (x2.length : Int))) - 1) : Int).toNat ≤ 35184372088832 then (impl_Field_compose.l0d x2 (List.replicate (wrap64 ((wrap64 ((x1.length : Int) + (x2.length : Int))) - 1) : Int).toNat 0) x1 (x1.length : Int) 0 x266000 x266001) else (none)) else (none)) := by
  refine IsLim.unique (impl_Field_compose.j0lim _ _ _ _ _) ?_
  refine IsLim.shift (by rfl) ?_
  simp only [impl_Field_compose.j0]
  repeat' (first | exact IsLim.const _ | refine IsLim.ite ?_ ?_ | refine IsLim.bind ?_ (fun _ => ?_) | exact impl_Field_compose.l0lim ..)
theorem impl_Field_compose.l0d_eq (x2 : List Int) (x7 : List Int) (x27 : List Int) (x28 : Int) (x29 : Int) (x266000 : Int) (x266001 : Int) : impl_Field_compose.l0d x2 x7 x27 x28 x29 x266000 x266001 = if x29 < x28 then (if 0 ≤ x29 then (if x29 < (x27.length : Int) then (impl_Field_compose.l1d x2 x7 x29 (rd x27 x29) x27 x28 x29 x2 (x2.length : Int) 0 x266000 x266001) else (none)) else (none)) else ((impl_trim.d x7).bind fun t269 => (some t269)) := by
  refine IsLim.unique (impl_Field_compose.l0lim _ _ _ _ _ _ _) ?_
  refine IsLim.shift (by rfl) ?_
  simp only [impl_Field_compose.l0]
  repeat' (first | exact IsLim.const _ | refine IsLim.ite ?_ ?_ | refine IsLim.bind ?_ (fun _ => ?_) | exact impl_trim.lim .. | exact impl_Field_compose.l1lim ..)
theorem impl_Field_compose.l1d_eq (x2 : List Int) (x7 : List Int) (x8 : Int) (x9 : Int) (x27 : List Int) (x28 : Int) (x29 : Int) (x34 : List Int) (x35 : Int) (x36 : Int) (x266000 : Int) (x266001 : Int) : impl_Field_compose.l1d x2 x7 x8 x9 x27 x28 x29 x34 x35 x36 x266000 x266001 = if x36 < x35 then (if 0 ≤ x36 then (if x36 < (x34.length : Int) then (if 0 ≤ (wrap64 (x8 + x36)) then (if (wrap64 (x8 + x36)) < (x7.length : Int) then ((impl_Field_square.d x266000 x266001 (rd x34 x36) x8).bind fun t275 => ((impl_Field_mul.d x266000 x266001 x9 t275).bind fun t276 => (impl_Field_compose.l1d x2 (x7.set ((wrap64 (x8 + x36)) : Int).toNat (Go.bits .xor .i64 (rd x7 (wrap64 (x8 + x36))) t276)) x8 x9 x27 x28 x29 x34 x35 (wrap64 (x36 + 1)) x266000 x266001))) else (none)) else (none)) else (none)) else (none)) else (impl_Field_compose.l0d x2 x7 x27 x28 (wrap64 (x29 + 1)) x266000 x266001) := by
  refine IsLim.unique (impl_Field_compose.l1lim _ _ _ _ _ _ _ _ _ _ _ _) ?_
  refine IsLim.shift (by rfl) ?_
  simp only [impl_Field_compose.l1]
  repeat' (first | exact IsLim.const _ | refine IsLim.ite ?_ ?_ | refine IsLim.bind ?_ (fun _ => ?_) | exact impl_Field_square.lim .. | exact impl_Field_mul.lim .. | exact impl_Field_compose.l1lim .. | exact impl_Field_compose.l0lim ..)
noncomputable def impl_Field_compose.d (a0_0 : Int) (a0_1 : Int) (l1 : List Int) (l2 : List Int) : Option (List Int) := lim (fun k => impl_Field_compose.f k a0_0 a0_1 l1 l2)
theorem impl_Field_compose.lim (a0_0 : Int) (a0_1 : Int) (l1 : List Int) (l2 : List Int) : IsLim (fun k => impl_Field_compose.f k a0_0 a0_1 l1 l2) (impl_Field_compose.d a0_0 a0_1 l1 l2) := lim_spec (fun k => impl_Field_compose.mono a0_0 a0_1 l1 l2 k)
theorem impl_Field_compose.d_eq (a0_0 : Int) (a0_1 : Int) (l1 : List Int) (l2 : List Int) : impl_Field_compose.d a0_0 a0_1 l1 l2 = if (l1.length : Int) = 0 then (impl_Field_compose.j0d l1 l2 true a0_0 a0_1) else (impl_Field_compose.j0d l1 l2 ((l2.length : Int) == 0) a0_0 a0_1) := by
  refine IsLim.unique (impl_Field_compose.lim _ _ _ _) ?_
  unfold impl_Field_compose.f
  repeat' (first | exact IsLim.const _ | refine IsLim.ite ?_ ?_ | refine IsLim.bind ?_ (fun _ => ?_) | exact impl_Field_compose.j0lim ..)
noncomputable def impl_plus.l0d (x5 : List Int) (x17 : List Int) (x18 : Int) (x19 : Int) : Option (List Int) := lim (fun k => impl_plus.l0 k x5 x17 x18 x19)
theorem impl_plus.l0lim (x5 : List Int) (x17 : List Int) (x18 : Int) (x19 : Int) : IsLim (fun k => impl_plus.l0 k x5 x17 x18 x19) (impl_plus.l0d x5 x17 x18 x19) := lim_spec (fun k => (impl_plus.mono_l k) x5 x17 x18 x19)
theorem impl_plus.l0d_eq (x5 : List Int) (x17 : List Int) (x18 : Int) (x19 : Int) : impl_plus.l0d x5 x17 x18 x19 = if x19 < x18 then (if 0 ≤ x19 then (if x19 < (x17.length : Int) then (if x19 < (x5.length : Int) then (impl_plus.l0d (x5.set (x19 : Int).toNat (Go.bits .xor .i64 (rd x5 x19) (rd x17 x19))) x17 x18 (wrap64 (x19 + 1))) else (none)) else (none)) else (none)) else ((impl_trim.d x5).bind fun t285 => (some t285)) := by
  refine IsLim.unique (impl_plus.l0lim _ _ _ _) ?_
  refine IsLim.shift (by rfl) ?_
  simp only [impl_plus.l0]
  repeat' (first | exact IsLim.const _ | refine IsLim.ite ?_ ?_ | refine IsLim.bind ?_ (fun _ => ?_) | exact impl_trim.lim .. | exact impl_plus.l0lim ..)
noncomputable def impl_plus.d (l0 : List Int) (l1 : List Int) : Option (List Int) := lim (fun k => impl_plus.f k l0 l1)
theorem impl_plus.lim (l0 : List Int) (l1 : List Int) : IsLim (fun k => impl_plus.f k l0 l1) (impl_plus.d l0 l1) := lim_spec (fun k => impl_plus.mono l0 l1 k)
theorem impl_plus.d_eq (l0 : List Int) (l1 : List Int) : impl_plus.d l0 l1 = if 0 ≤ (mx (l0.length : Int) (l1.length : Int)) then (if (mx (l0.length : Int) (l1.length : Int) : Int).toNat ≤ 35184372088832 then ((some (List.replicate (mx (l0.length : Int) (l1.length : Int) : Int).toNat 0 : List Int)).bind fun y278 => (if (l0.length : Int) ≤ (y278.length : Int) then (impl_plus.l0d (l0 ++ y278.drop l0.length) l1 (l1.length : Int) 0) else (none))) else (none)) else (none) := by
  refine IsLim.unique (impl_plus.lim _ _) ?_
  unfold impl_plus.f
  repeat' (first | exact IsLim.const _ | refine IsLim.ite ?_ ?_ | refine IsLim.bind ?_ (fun _ => ?_) | exact impl_plus.l0lim ..)
end Go.Proofs.Ytkhjoomjjdgkjaa.P
end
section
namespace Go.Proofs.Ytkhjoomjjdgkjaa.P
open Go.RowKit Go.Proofs.YtkhjoomjjdgkjaaW.PrintWords Go.Proofs.YtkhjoomjjdgkjaaW.PrintLast Go.Proofs.YtkhjoomjjdgkjaaW.PrintMore
set_option linter.unusedVariables false
set_option linter.unusedSimpArgs false
end Go.Proofs.Ytkhjoomjjdgkjaa.P
end
section
namespace Go.Proofs.Ytkhjoomjjdgkjaa.P
open Go.RowKit Go.Proofs.YtkhjoomjjdgkjaaW.PrintWords Go.Proofs.YtkhjoomjjdgkjaaW.PrintLast Go.Proofs.YtkhjoomjjdgkjaaW.PrintMore
set_option linter.unusedVariables false
set_option linter.unusedSimpArgs false
noncomputable def impl_Field_power.l0d (x1 : Int) (x2 : Int) (x7 : Int) (x289000 : Int) (x289001 : Int) : Option (Int) := lim (fun k => impl_Field_power.l0 k x1 x2 x7 x289000 x289001)
theorem impl_Field_power.l0lim (x1 : Int) (x2 : Int) (x7 : Int) (x289000 : Int) (x289001 : Int) : IsLim (fun k => impl_Field_power.l0 k x1 x2 x7 x289000 x289001) (impl_Field_power.l0d x1 x2 x7 x289000 x289001) := lim_spec (fun k => (impl_Field_power.mono_l k) x1 x2 x7 x289000 x289001)
theorem impl_Field_power.l0d_eq (x1 : Int) (x2 : Int) (x7 : Int) (x289000 : Int) (x289001 : Int) : impl_Field_power.l0d x1 x2 x7 x289000 x289001 = if x2 > 0 then (if (Go.bits .and .i64 x2 1) = 1 then ((impl_Field_mul.d x289000 x289001 x7 x1).bind fun t289 => ((impl_Field_mul.d x289000 x289001 x1 x1).bind fun t290 => (impl_Field_power.l0d t290 (x2 / 2) t289 x289000 x289001))) else ((impl_Field_mul.d x289000 x289001 x1 x1).bind fun t291 => (impl_Field_power.l0d t291 (x2 / 2) x7 x289000 x289001))) else (some x7) := by
  refine IsLim.unique (impl_Field_power.l0lim _ _ _ _ _) ?_
  refine IsLim.shift (by rfl) ?_
  simp only [impl_Field_power.l0]
  repeat' (first | exact IsLim.const _ | refine IsLim.ite ?_ ?_ | refine IsLim.bind ?_ (fun _ => ?_) | exact impl_Field_mul.lim .. | exact impl_Field_power.l0lim ..)
noncomputable def impl_Field_power.d (a0_0 : Int) (a0_1 : Int) (a1 : Int) (a2 : Int) : Option (Int) := lim (fun k => impl_Field_power.f k a0_0 a0_1 a1 a2)
theorem impl_Field_power.lim (a0_0 : Int) (a0_1 : Int) (a1 : Int) (a2 : Int) : IsLim (fun k => impl_Field_power.f k a0_0 a0_1 a1 a2) (impl_Field_power.d a0_0 a0_1 a1 a2) := lim_spec (fun k => impl_Field_power.mono a0_0 a0_1 a1 a2 k)
theorem impl_Field_power.d_eq (a0_0 : Int) (a0_1 : Int) (a1 : Int) (a2 : Int) : impl_Field_power.d a0_0 a0_1 a1 a2 = impl_Field_power.l0d a1 a2 1 a0_0 a0_1 := by
  refine IsLim.unique (impl_Field_power.lim _ _ _ _) ?_
  unfold impl_Field_power.f
  repeat' (first | exact IsLim.const _ | refine IsLim.ite ?_ ?_ | refine IsLim.bind ?_ (fun _ => ?_) | exact impl_Field_power.l0lim ..)
noncomputable def impl_Field_inverse.d (a0_0 : Int) (a0_1 : Int) (a1 : Int) : Option (Int) := lim (fun k => impl_Field_inverse.f k a0_0 a0_1 a1)
theorem impl_Field_inverse.lim (a0_0 : Int) (a0_1 : Int) (a1 : Int) : IsLim (fun k => impl_Field_inverse.f k a0_0 a0_1 a1) (impl_Field_inverse.d a0_0 a0_1 a1) := lim_spec (fun k => impl_Field_inverse.mono a0_0 a0_1 a1 k)
theorem impl_Field_inverse.d_eq (a0_0 : Int) (a0_1 : Int) (a1 : Int) : impl_Field_inverse.d a0_0 a0_1 a1 = (impl_Field_count.f a0_0 a0_1).bind fun t293 => ((impl_Field_power.d a0_0 a0_1 a1 (wrap64 (t293 - 2))).bind fun t294 => (some t294)) := by
  refine IsLim.unique (impl_Field_inverse.lim _ _ _) ?_
  unfold impl_Field_inverse.f
  repeat' (first | exact IsLim.const _ | refine IsLim.ite ?_ ?_ | refine IsLim.bind ?_ (fun _ => ?_) | exact impl_Field_power.lim ..)
noncomputable def impl_Field_root.d (a0_0 : Int) (a0_1 : Int) (a1 : Int) (a2 : Int) : Option (Int) := lim (fun k => impl_Field_root.f k a0_0 a0_1 a1 a2)
theorem impl_Field_root.lim (a0_0 : Int) (a0_1 : Int) (a1 : Int) (a2 : Int) : IsLim (fun k => impl_Field_root.f k a0_0 a0_1 a1 a2) (impl_Field_root.d a0_0 a0_1 a1 a2) := lim_spec (fun k => impl_Field_root.mono a0_0 a0_1 a1 a2 k)
theorem impl_Field_root.d_eq (a0_0 : Int) (a0_1 : Int) (a1 : Int) (a2 : Int) : impl_Field_root.d a0_0 a0_1 a1 a2 = if a0_0 = 0 then (none) else ((impl_Field_square.d a0_0 a0_1 a1 (Int.tmod (wrap64 (a0_0 - (Int.tmod a2 a0_0))) a0_0)).bind fun t296 => (some t296)) := by
  refine IsLim.unique (impl_Field_root.lim _ _ _ _) ?_
  unfold impl_Field_root.f
  repeat' (first | exact IsLim.const _ | refine IsLim.ite ?_ ?_ | refine IsLim.bind ?_ (fun _ => ?_) | exact impl_Field_square.lim ..)
end Go.Proofs.Ytkhjoomjjdgkjaa.P
end
section
namespace Go.Proofs.Ytkhjoomjjdgkjaa.P
open Go.RowKit Go.Proofs.YtkhjoomjjdgkjaaW.PrintWords Go.Proofs.YtkhjoomjjdgkjaaW.PrintLast Go.Proofs.YtkhjoomjjdgkjaaW.PrintMore
set_option linter.unusedVariables false
set_option linter.unusedSimpArgs false
noncomputable def impl_Field_divide.l0d (x2 : List Int) (x3 : Bool) (x10 : List Int) (x11 : List Int) (x12 : Int) (x298000 : Int) (x298001 : Int) : Option (List Int × List Int) := lim (fun k => impl_Field_divide.l0 k x2 x3 x10 x11 x12 x298000 x298001)
theorem impl_Field_divide.l0lim (x2 : List Int) (x3 : Bool) (x10 : List Int) (x11 : List Int) (x12 : Int) (x298000 : Int) (x298001 : Int) : IsLim (fun k => impl_Field_divide.l0 k x2 x3 x10 x11 x12 x298000 x298001) (impl_Field_divide.l0d x2 x3 x10 x11 x12 x298000 x298001) := lim_spec (fun k => (impl_Field_divide.mono_l k) x2 x3 x10 x11 x12 x298000 x298001)
theorem impl_Field_divide.l0d_eq (x2 : List Int) (x3 : Bool) (x10 : List Int) (x11 : List Int) (x12 : Int) (x298000 : Int) (x298001 : Int) : impl_Field_divide.l0d x2 x3 x10 x11 x12 x298000 x298001 = if (x11.length : Int) ≥ (x2.length : Int) then (if 0 ≤ (wrap64 ((wrap64 ((x11.length : Int) - (x2.length : Int))) + 1)) then (if (wrap64 ((wrap64 ((x11.length : Int) - (x2.length : Int))) + 1) : Int).toNat ≤ 35184372088832 then ((some (List.replicate (wrap64 ((wrap64 ((x11.length : Int) - (x2.length : Int))) + 1) : Int).toNat 0 : List Int)).bind fun y304 => (if 0 ≤ (wrap64 ((x11.length : Int) - 1)) then (if (wrap64 ((x11.length : Int) - 1)) < (x11.length : Int) then (if x3 = true then (if 0 ≤ x12 then (if x12 < (x2.length : Int) then ((impl_Field_square.d x298000 x298001 (rd x2 x12) (wrap64 ((x11.length : Int) - (x2.length : Int)))).bind fun t309 => ((impl_Field_inverse.d x298000 x298001 t309).bind fun t310 => ((impl_Field_mul.d x298000 x298001 (rd x11 (wrap64 ((x11.length : Int) - 1))) t310).bind fun t311 => (if 0 ≤ (wrap64 ((x11.length : Int) - (x2.length : Int))) then (if (wrap64 ((x11.length : Int) - (x2.length : Int))) < (y304.length : Int) then ((some (y304.set ((wrap64 ((x11.length : Int) - (x2.length : Int))) : Int).toNat t311 : List Int)).bind fun y312 => ((impl_Field_compose.d x298000 x298001 y312 x2).bind fun t313 => ((impl_plus.d x11 t313).bind fun t316 => ((impl_plus.d x10 y312).bind fun t319 => (impl_Field_divide.l0d x2 x3 t319 t316 x12 x298000 x298001))))) else (none)) else (none))))) else (none)) else (none)) else (if 0 ≤ x12 then (if x12 < (x2.length : Int) then ((impl_Field_inverse.d x298000 x298001 (rd x2 x12)).bind fun t323 => ((impl_Field_mul.d x298000 x298001 (rd x11 (wrap64 ((x11.length : Int) - 1))) t323).bind fun t324 => ((impl_Field_root.d x298000 x298001 t324 x12).bind fun t325 => (if 0 ≤ (wrap64 ((x11.length : Int) - (x2.length : Int))) then (if (wrap64 ((x11.length : Int) - (x2.length : Int))) < (y304.length : Int) then ((some (y304.set ((wrap64 ((x11.length : Int) - (x2.length : Int))) : Int).toNat t325 : List Int)).bind fun y326 => ((impl_Field_compose.d x298000 x298001 x2 y326).bind fun t327 => ((impl_plus.d x11 t327).bind fun t330 => ((impl_plus.d x10 y326).bind fun t333 => (impl_Field_divide.l0d x2 x3 t333 t330 x12 x298000 x298001))))) else (none)) else (none))))) else (none)) else (none))) else (none)) else (none))) else (none)) else (none)) else (some (x10, x11)) := by
  refine IsLim.unique (impl_Field_divide.l0lim _ _ _ _ _ _ _) ?_
  refine IsLim.shift (by rfl) ?_
  simp only [impl_Field_divide.l0]
  repeat' (first | exact IsLim.const _ | refine IsLim.ite ?_ ?_ | refine IsLim.bind ?_ (fun _ => ?_) | exact impl_Field_square.lim .. | exact impl_Field_inverse.lim .. | exact impl_Field_mul.lim .. | exact impl_Field_compose.lim .. | exact impl_plus.lim .. | exact impl_Field_root.lim .. | exact impl_Field_divide.l0lim ..)
noncomputable def impl_Field_divide.d (a0_0 : Int) (a0_1 : Int) (l1 : List Int) (l2 : List Int) (a3 : Bool) : Option (List Int × List Int) := lim (fun k => impl_Field_divide.f k a0_0 a0_1 l1 l2 a3)
theorem impl_Field_divide.lim (a0_0 : Int) (a0_1 : Int) (l1 : List Int) (l2 : List Int) (a3 : Bool) : IsLim (fun k => impl_Field_divide.f k a0_0 a0_1 l1 l2 a3) (impl_Field_divide.d a0_0 a0_1 l1 l2 a3) := lim_spec (fun k => impl_Field_divide.mono a0_0 a0_1 l1 l2 a3 k)
theorem impl_Field_divide.d_eq (a0_0 : Int) (a0_1 : Int) (l1 : List Int) (l2 : List Int) (a3 : Bool) : impl_Field_divide.d a0_0 a0_1 l1 l2 a3 = (slices_Clone_int64_int64.f l1).bind fun t301 => (impl_Field_divide.l0d l2 a3 (([] : List Int)) t301 (wrap64 ((l2.length : Int) - 1)) a0_0 a0_1) := by
  refine IsLim.unique (impl_Field_divide.lim _ _ _ _ _) ?_
  unfold impl_Field_divide.f
  repeat' (first | exact IsLim.const _ | refine IsLim.ite ?_ ?_ | refine IsLim.bind ?_ (fun _ => ?_) | exact impl_Field_divide.l0lim ..)
end Go.Proofs.Ytkhjoomjjdgkjaa.P
end
section
namespace Go.Proofs.Ytkhjoomjjdgkjaa.P
open Go.RowKit Go.Proofs.YtkhjoomjjdgkjaaW.PrintWords Go.Proofs.YtkhjoomjjdgkjaaW.PrintLast Go.Proofs.YtkhjoomjjdgkjaaW.PrintMore
set_option linter.unusedVariables false
set_option linter.unusedSimpArgs false
noncomputable def impl_Field_divided.j0d (x1 : List Int) (x2 : List Int) (x3 : Bool) (x11 : Int) (x25 : Bool) (x337000 : Int) (x337001 : Int) : Option (List Int × List Int × Int) := lim (fun k => impl_Field_divided.j0 k x1 x2 x3 x11 x25 x337000 x337001)
theorem impl_Field_divided.j0lim (x1 : List Int) (x2 : List Int) (x3 : Bool) (x11 : Int) (x25 : Bool) (x337000 : Int) (x337001 : Int) : IsLim (fun k => impl_Field_divided.j0 k x1 x2 x3 x11 x25 x337000 x337001) (impl_Field_divided.j0d x1 x2 x3 x11 x25 x337000 x337001) := lim_spec (fun k => (impl_Field_divided.mono_l k) x1 x2 x3 x11 x25 x337000 x337001)
theorem impl_Field_divided.j0d_eq (x1 : List Int) (x2 : List Int) (x3 : Bool) (x11 : Int) (x25 : Bool) (x337000 : Int) (x337001 : Int) : impl_Field_divided.j0d x1 x2 x3 x11 x25 x337000 x337001 = if x25 = true then (if 4 = 0 then ((impl_Field_divide.d x337000 x337001 x1 x2 x3).bind fun bt341 => (some (bt341.1, bt341.2, 0))) else (some (([] : List Int), ([] : List Int), 4))) else (if x11 = 0 then ((impl_Field_divide.d x337000 x337001 x1 x2 x3).bind fun bt347 => (some (bt347.1, bt347.2, 0))) else (some (([] : List Int), ([] : List Int), x11))) := by
  refine IsLim.unique (impl_Field_divided.j0lim _ _ _ _ _ _ _) ?_
  refine IsLim.shift (by rfl) ?_
  simp only [impl_Field_divided.j0]
  repeat' (first | exact IsLim.const _ | refine IsLim.ite ?_ ?_ | refine IsLim.bind ?_ (fun _ => ?_) | exact impl_Field_divide.lim ..)
noncomputable def impl_Field_divided.d (a0_0 : Int) (a0_1 : Int) (l1 : List Int) (l2 : List Int) (a3 : Bool) : Option (List Int × List Int × Int) := lim (fun k => impl_Field_divided.f k a0_0 a0_1 l1 l2 a3)
theorem impl_Field_divided.lim (a0_0 : Int) (a0_1 : Int) (l1 : List Int) (l2 : List Int) (a3 : Bool) : IsLim (fun k => impl_Field_divided.f k a0_0 a0_1 l1 l2 a3) (impl_Field_divided.d a0_0 a0_1 l1 l2 a3) := lim_spec (fun k => impl_Field_divided.mono a0_0 a0_1 l1 l2 a3 k)
theorem impl_Field_divided.d_eq (a0_0 : Int) (a0_1 : Int) (l1 : List Int) (l2 : List Int) (a3 : Bool) : impl_Field_divided.d a0_0 a0_1 l1 l2 a3 = (impl_Field_linearCode.d a0_0 a0_1 (([l1, l2] : List (List Int)))).bind fun t340 => (if t340 = 0 then (impl_Field_divided.j0d l1 l2 a3 t340 ((l2.length : Int) == 0) a0_0 a0_1) else (impl_Field_divided.j0d l1 l2 a3 t340 false a0_0 a0_1)) := by
  refine IsLim.unique (impl_Field_divided.lim _ _ _ _ _) ?_
  unfold impl_Field_divided.f
  repeat' (first | exact IsLim.const _ | refine IsLim.ite ?_ ?_ | refine IsLim.bind ?_ (fun _ => ?_) | exact impl_Field_linearCode.lim .. | exact impl_Field_divided.j0lim ..)
end Go.Proofs.Ytkhjoomjjdgkjaa.P
end
section
namespace Go.Proofs.Ytkhjoomjjdgkjaa.P
open Go.RowKit Go.Proofs.YtkhjoomjjdgkjaaW.PrintWords Go.Proofs.YtkhjoomjjdgkjaaW.PrintLast Go.Proofs.YtkhjoomjjdgkjaaW.PrintMore
set_option linter.unusedVariables false
set_option linter.unusedSimpArgs false
noncomputable def impl_DivideRight.d (a0_0 : Int) (a0_1 : Int) (l1 : List Int) (l2 : List Int) : Option (List Int × List Int × Int) := lim (fun k => impl_DivideRight.f k a0_0 a0_1 l1 l2)
theorem impl_DivideRight.lim (a0_0 : Int) (a0_1 : Int) (l1 : List Int) (l2 : List Int) : IsLim (fun k => impl_DivideRight.f k a0_0 a0_1 l1 l2) (impl_DivideRight.d a0_0 a0_1 l1 l2) := lim_spec (fun k => impl_DivideRight.mono a0_0 a0_1 l1 l2 k)
theorem impl_DivideRight.d_eq (a0_0 : Int) (a0_1 : Int) (l1 : List Int) (l2 : List Int) : impl_DivideRight.d a0_0 a0_1 l1 l2 = (impl_Field_divided.d a0_0 a0_1 l1 l2 true).bind fun bt354 => (some (bt354.1, bt354.2.1, bt354.2.2)) := by
  refine IsLim.unique (impl_DivideRight.lim _ _ _ _) ?_
  unfold impl_DivideRight.f
  repeat' (first | exact IsLim.const _ | refine IsLim.ite ?_ ?_ | refine IsLim.bind ?_ (fun _ => ?_) | exact impl_Field_divided.lim ..)
end Go.Proofs.Ytkhjoomjjdgkjaa.P
end
section
namespace Go.Proofs.Ytkhjoomjjdgkjaa.P
open Go.RowKit Go.Proofs.YtkhjoomjjdgkjaaW.PrintWords Go.Proofs.YtkhjoomjjdgkjaaW.PrintLast Go.Proofs.YtkhjoomjjdgkjaaW.PrintMore
set_option linter.unusedVariables false
set_option linter.unusedSimpArgs false
noncomputable def impl_DivideLeft.d (a0_0 : Int) (a0_1 : Int) (l1 : List Int) (l2 : List Int) : Option (List Int × List Int × Int) := lim (fun k => impl_DivideLeft.f k a0_0 a0_1 l1 l2)
theorem impl_DivideLeft.lim (a0_0 : Int) (a0_1 : Int) (l1 : List Int) (l2 : List Int) : IsLim (fun k => impl_DivideLeft.f k a0_0 a0_1 l1 l2) (impl_DivideLeft.d a0_0 a0_1 l1 l2) := lim_spec (fun k => impl_DivideLeft.mono a0_0 a0_1 l1 l2 k)
theorem impl_DivideLeft.d_eq (a0_0 : Int) (a0_1 : Int) (l1 : List Int) (l2 : List Int) : impl_DivideLeft.d a0_0 a0_1 l1 l2 = (impl_Field_divided.d a0_0 a0_1 l1 l2 false).bind fun bt478 => (some (bt478.1, bt478.2.1, bt478.2.2)) := by
  refine IsLim.unique (impl_DivideLeft.lim _ _ _ _) ?_
  unfold impl_DivideLeft.f
  repeat' (first | exact IsLim.const _ | refine IsLim.ite ?_ ?_ | refine IsLim.bind ?_ (fun _ => ?_) | exact impl_Field_divided.lim ..)
end Go.Proofs.Ytkhjoomjjdgkjaa.P
end
section
namespace Go.Proofs.Ytkhjoomjjdgkjaa.P
open Go.RowKit Go.Proofs.YtkhjoomjjdgkjaaW.PrintWords Go.Proofs.YtkhjoomjjdgkjaaW.PrintLast Go.Proofs.YtkhjoomjjdgkjaaW.PrintMore
set_option linter.unusedVariables false
set_option linter.unusedSimpArgs false
noncomputable def spec_l01Fields.d (a0 : Int) : Option ((List (S27))) := lim (fun k => spec_l01Fields.f k a0)
theorem spec_l01Fields.lim (a0 : Int) : IsLim (fun k => spec_l01Fields.f k a0) (spec_l01Fields.d a0) := lim_spec (fun k => spec_l01Fields.mono a0 k)
noncomputable def spec_l01Drawn.d (s0_0 : List Int) (s0_1 : Int) (s0_2 : Int) : Option (Int × Int × Int × Int) := lim (fun k => spec_l01Drawn.f k s0_0 s0_1 s0_2)
theorem spec_l01Drawn.lim (s0_0 : List Int) (s0_1 : Int) (s0_2 : Int) : IsLim (fun k => spec_l01Drawn.f k s0_0 s0_1 s0_2) (spec_l01Drawn.d s0_0 s0_1 s0_2) := lim_spec (fun k => spec_l01Drawn.mono s0_0 s0_1 s0_2 k)
theorem spec_l01Drawn.d_eq (s0_0 : List Int) (s0_1 : Int) (s0_2 : Int) : spec_l01Drawn.d s0_0 s0_1 s0_2 = (spec_l00Src_among.f s0_0 s0_1 s0_2 (([1, 2, 3, 3, 4, 4, 5] : List Int))).bind fun bt579 => ((spec_l01Fields.d bt579.1).bind fun t582 => ((spec_l00Src_pick.f s0_0 bt579.2.1 bt579.2.2 (t582.length : Int)).bind fun bt585 => (if 0 ≤ bt585.1 then (if bt585.1 < (t582.length : Int) then (some ((rd_T27 t582 bt585.1).f0, (rd_T27 t582 bt585.1).f1, bt585.2.1, bt585.2.2)) else (none)) else (none)))) := by
  refine IsLim.unique (spec_l01Drawn.lim _ _ _) ?_
  unfold spec_l01Drawn.f
  repeat' (first | exact IsLim.const _ | refine IsLim.ite ?_ ?_ | refine IsLim.bind ?_ (fun _ => ?_) | exact spec_l01Fields.lim ..)
end Go.Proofs.Ytkhjoomjjdgkjaa.P
end
section
namespace Go.Proofs.Ytkhjoomjjdgkjaa.P
open Go.RowKit Go.Proofs.YtkhjoomjjdgkjaaW.PrintWords Go.Proofs.YtkhjoomjjdgkjaaW.PrintLast Go.Proofs.YtkhjoomjjdgkjaaW.PrintMore
set_option linter.unusedVariables false
set_option linter.unusedSimpArgs false
noncomputable def spec_A2Field.d (l0 : List Int) : Option (Int × Int) := lim (fun k => spec_A2Field.f k l0)
theorem spec_A2Field.lim (l0 : List Int) : IsLim (fun k => spec_A2Field.f k l0) (spec_A2Field.d l0) := lim_spec (fun k => spec_A2Field.mono l0 k)
theorem spec_A2Field.d_eq (l0 : List Int) : spec_A2Field.d l0 = (spec_l00From.f l0).bind fun bt591 => ((spec_l01Drawn.d bt591.1 bt591.2.1 bt591.2.2).bind fun bt595 => (some (bt595.1, bt595.2.1))) := by
  refine IsLim.unique (spec_A2Field.lim _) ?_
  unfold spec_A2Field.f
  repeat' (first | exact IsLim.const _ | refine IsLim.ite ?_ ?_ | refine IsLim.bind ?_ (fun _ => ?_) | exact spec_l01Drawn.lim ..)
noncomputable def spec_l03Drawn.l0d (x7 : List Int) (x8 : Int) (x1000 : List Int) (x1001 : Int) (x1002 : Int) (x600000 : Int) (x600001 : Int) : Option (List Int × Int × Int) := lim (fun k => spec_l03Drawn.l0 k x7 x8 x1000 x1001 x1002 x600000 x600001)
theorem spec_l03Drawn.l0lim (x7 : List Int) (x8 : Int) (x1000 : List Int) (x1001 : Int) (x1002 : Int) (x600000 : Int) (x600001 : Int) : IsLim (fun k => spec_l03Drawn.l0 k x7 x8 x1000 x1001 x1002 x600000 x600001) (spec_l03Drawn.l0d x7 x8 x1000 x1001 x1002 x600000 x600001) := lim_spec (fun k => (spec_l03Drawn.mono_l k) x7 x8 x1000 x1001 x1002 x600000 x600001)
theorem spec_l03Drawn.l0d_eq (x7 : List Int) (x8 : Int) (x1000 : List Int) (x1001 : Int) (x1002 : Int) (x600000 : Int) (x600001 : Int) : spec_l03Drawn.l0d x7 x8 x1000 x1001 x1002 x600000 x600001 = if x8 > 0 then ((spec_l01Size.f x600000 x600001).bind fun t606 => ((spec_l00Src_pick.f x1000 x1001 x1002 t606).bind fun bt607 => (if x7.length < 17592186044416 then (spec_l03Drawn.l0d (x7 ++ [bt607.1]) (wrap64 (x8 - 1)) x1000 bt607.2.1 bt607.2.2 x600000 x600001) else (none)))) else ((spec_l03Trim.d x7).bind fun t613 => (some (t613, x1001, x1002))) := by
  refine IsLim.unique (spec_l03Drawn.l0lim _ _ _ _ _ _ _) ?_
  refine IsLim.shift (by rfl) ?_
  simp only [spec_l03Drawn.l0]
  repeat' (first | exact IsLim.const _ | refine IsLim.ite ?_ ?_ | refine IsLim.bind ?_ (fun _ => ?_) | exact spec_l03Trim.lim .. | exact spec_l03Drawn.l0lim ..)
noncomputable def spec_l03Drawn.d (s0_0 : List Int) (s0_1 : Int) (s0_2 : Int) (a1_0 : Int) (a1_1 : Int) (a2 : Int) : Option (List Int × Int × Int) := lim (fun k => spec_l03Drawn.f k s0_0 s0_1 s0_2 a1_0 a1_1 a2)
theorem spec_l03Drawn.lim (s0_0 : List Int) (s0_1 : Int) (s0_2 : Int) (a1_0 : Int) (a1_1 : Int) (a2 : Int) : IsLim (fun k => spec_l03Drawn.f k s0_0 s0_1 s0_2 a1_0 a1_1 a2) (spec_l03Drawn.d s0_0 s0_1 s0_2 a1_0 a1_1 a2) := lim_spec (fun k => spec_l03Drawn.mono s0_0 s0_1 s0_2 a1_0 a1_1 a2 k)
theorem spec_l03Drawn.d_eq (s0_0 : List Int) (s0_1 : Int) (s0_2 : Int) (a1_0 : Int) (a1_1 : Int) (a2 : Int) : spec_l03Drawn.d s0_0 s0_1 s0_2 a1_0 a1_1 a2 = (spec_l00Src_pick.f s0_0 s0_1 s0_2 (wrap64 (a2 + 1))).bind fun bt603 => (spec_l03Drawn.l0d (([] : List Int)) bt603.1 s0_0 bt603.2.1 bt603.2.2 a1_0 a1_1) := by
  refine IsLim.unique (spec_l03Drawn.lim _ _ _ _ _ _) ?_
  unfold spec_l03Drawn.f
  repeat' (first | exact IsLim.const _ | refine IsLim.ite ?_ ?_ | refine IsLim.bind ?_ (fun _ => ?_) | exact spec_l03Drawn.l0lim ..)
noncomputable def spec_A2Linear.d (l0 : List Int) (a1_0 : Int) (a1_1 : Int) (a2 : Int) : Option (List Int) := lim (fun k => spec_A2Linear.f k l0 a1_0 a1_1 a2)
theorem spec_A2Linear.lim (l0 : List Int) (a1_0 : Int) (a1_1 : Int) (a2 : Int) : IsLim (fun k => spec_A2Linear.f k l0 a1_0 a1_1 a2) (spec_A2Linear.d l0 a1_0 a1_1 a2) := lim_spec (fun k => spec_A2Linear.mono l0 a1_0 a1_1 a2 k)
theorem spec_A2Linear.d_eq (l0 : List Int) (a1_0 : Int) (a1_1 : Int) (a2 : Int) : spec_A2Linear.d l0 a1_0 a1_1 a2 = (spec_l00From.f l0).bind fun bt617 => ((spec_l03Drawn.d bt617.1 bt617.2.1 bt617.2.2 a1_0 a1_1 a2).bind fun bt621 => (some bt621.1)) := by
  refine IsLim.unique (spec_A2Linear.lim _ _ _ _) ?_
  unfold spec_A2Linear.f
  repeat' (first | exact IsLim.const _ | refine IsLim.ite ?_ ?_ | refine IsLim.bind ?_ (fun _ => ?_) | exact spec_l03Drawn.lim ..)
end Go.Proofs.Ytkhjoomjjdgkjaa.P
end
section
namespace Go.Proofs.Ytkhjoomjjdgkjaa.P
open Go.RowKit Go.Proofs.YtkhjoomjjdgkjaaW.PrintWords Go.Proofs.YtkhjoomjjdgkjaaW.PrintLast Go.Proofs.YtkhjoomjjdgkjaaW.PrintMore
set_option linter.unusedVariables false
set_option linter.unusedSimpArgs false
noncomputable def spec_l00Same.l0d (x0 : List Int) (x1 : List Int) (x5 : Int) : Option (Bool) := lim (fun k => spec_l00Same.l0 k x0 x1 x5)
theorem spec_l00Same.l0lim (x0 : List Int) (x1 : List Int) (x5 : Int) : IsLim (fun k => spec_l00Same.l0 k x0 x1 x5) (spec_l00Same.l0d x0 x1 x5) := lim_spec (fun k => (spec_l00Same.mono_l k) x0 x1 x5)
theorem spec_l00Same.l0d_eq (x0 : List Int) (x1 : List Int) (x5 : Int) : spec_l00Same.l0d x0 x1 x5 = if x5 < (x0.length : Int) then (if 0 ≤ x5 then (if x5 < (x1.length : Int) then (if (rd x0 x5) = (rd x1 x5) then (spec_l00Same.l0d x0 x1 (wrap64 (x5 + 1))) else (some false)) else (none)) else (none)) else (some true) := by
  refine IsLim.unique (spec_l00Same.l0lim _ _ _) ?_
  refine IsLim.shift (by rfl) ?_
  simp only [spec_l00Same.l0]
  repeat' (first | exact IsLim.const _ | refine IsLim.ite ?_ ?_ | refine IsLim.bind ?_ (fun _ => ?_) | exact spec_l00Same.l0lim ..)
noncomputable def spec_l00Same.d (l0 : List Int) (l1 : List Int) : Option (Bool) := lim (fun k => spec_l00Same.f k l0 l1)
theorem spec_l00Same.lim (l0 : List Int) (l1 : List Int) : IsLim (fun k => spec_l00Same.f k l0 l1) (spec_l00Same.d l0 l1) := lim_spec (fun k => spec_l00Same.mono l0 l1 k)
theorem spec_l00Same.d_eq (l0 : List Int) (l1 : List Int) : spec_l00Same.d l0 l1 = if (l0.length : Int) = (l1.length : Int) then (spec_l00Same.l0d l0 l1 0) else (some false) := by
  refine IsLim.unique (spec_l00Same.lim _ _) ?_
  unfold spec_l00Same.f
  repeat' (first | exact IsLim.const _ | refine IsLim.ite ?_ ?_ | refine IsLim.bind ?_ (fun _ => ?_) | exact spec_l00Same.l0lim ..)
noncomputable def spec_SameList.d (l0 : List Int) (l1 : List Int) : Option (Bool) := lim (fun k => spec_SameList.f k l0 l1)
theorem spec_SameList.lim (l0 : List Int) (l1 : List Int) : IsLim (fun k => spec_SameList.f k l0 l1) (spec_SameList.d l0 l1) := lim_spec (fun k => spec_SameList.mono l0 l1 k)
theorem spec_SameList.d_eq (l0 : List Int) (l1 : List Int) : spec_SameList.d l0 l1 = (spec_l00Same.d l0 l1).bind fun t644 => (some t644) := by
  refine IsLim.unique (spec_SameList.lim _ _) ?_
  unfold spec_SameList.f
  repeat' (first | exact IsLim.const _ | refine IsLim.ite ?_ ?_ | refine IsLim.bind ?_ (fun _ => ?_) | exact spec_l00Same.lim ..)
end Go.Proofs.Ytkhjoomjjdgkjaa.P
end
section
namespace Go.Proofs.Ytkhjoomjjdgkjaa.P
open Go.RowKit Go.Proofs.YtkhjoomjjdgkjaaW.PrintWords Go.Proofs.YtkhjoomjjdgkjaaW.PrintLast Go.Proofs.YtkhjoomjjdgkjaaW.PrintMore
set_option linter.unusedVariables false
set_option linter.unusedSimpArgs false
noncomputable def impl_ComposeLinear.d (a0_0 : Int) (a0_1 : Int) (l1 : List Int) (l2 : List Int) : Option (List Int × Int) := lim (fun k => impl_ComposeLinear.f k a0_0 a0_1 l1 l2)
theorem impl_ComposeLinear.lim (a0_0 : Int) (a0_1 : Int) (l1 : List Int) (l2 : List Int) : IsLim (fun k => impl_ComposeLinear.f k a0_0 a0_1 l1 l2) (impl_ComposeLinear.d a0_0 a0_1 l1 l2) := lim_spec (fun k => impl_ComposeLinear.mono a0_0 a0_1 l1 l2 k)
theorem impl_ComposeLinear.d_eq (a0_0 : Int) (a0_1 : Int) (l1 : List Int) (l2 : List Int) : impl_ComposeLinear.d a0_0 a0_1 l1 l2 = (impl_Field_linearCode.d a0_0 a0_1 (([l1, l2] : List (List Int)))).bind fun t630 => (if t630 = 0 then ((impl_Field_compose.d a0_0 a0_1 l1 l2).bind fun t631 => (if (t631.length : Int) > 12 then (some (([] : List Int), 3)) else (some (t631, 0)))) else (some (([] : List Int), t630))) := by
  refine IsLim.unique (impl_ComposeLinear.lim _ _ _ _) ?_
  unfold impl_ComposeLinear.f
  repeat' (first | exact IsLim.const _ | refine IsLim.ite ?_ ?_ | refine IsLim.bind ?_ (fun _ => ?_) | exact impl_Field_linearCode.lim .. | exact impl_Field_compose.lim ..)
noncomputable def impl_SumLinear.d (a0_0 : Int) (a0_1 : Int) (l1 : List Int) (l2 : List Int) : Option (List Int × Int) := lim (fun k => impl_SumLinear.f k a0_0 a0_1 l1 l2)
theorem impl_SumLinear.lim (a0_0 : Int) (a0_1 : Int) (l1 : List Int) (l2 : List Int) : IsLim (fun k => impl_SumLinear.f k a0_0 a0_1 l1 l2) (impl_SumLinear.d a0_0 a0_1 l1 l2) := lim_spec (fun k => impl_SumLinear.mono a0_0 a0_1 l1 l2 k)
theorem impl_SumLinear.d_eq (a0_0 : Int) (a0_1 : Int) (l1 : List Int) (l2 : List Int) : impl_SumLinear.d a0_0 a0_1 l1 l2 = (impl_Field_linearCode.d a0_0 a0_1 (([l1, l2] : List (List Int)))).bind fun t638 => (if t638 = 0 then ((impl_plus.d l1 l2).bind fun t639 => (some (t639, 0))) else (some (([] : List Int), t638))) := by
  refine IsLim.unique (impl_SumLinear.lim _ _ _ _) ?_
  unfold impl_SumLinear.f
  repeat' (first | exact IsLim.const _ | refine IsLim.ite ?_ ?_ | refine IsLim.bind ?_ (fun _ => ?_) | exact impl_Field_linearCode.lim .. | exact impl_plus.lim ..)
end Go.Proofs.Ytkhjoomjjdgkjaa.P
end
section
namespace Go.Proofs.Ytkhjoomjjdgkjaa.P
open Go.RowKit Go.Proofs.YtkhjoomjjdgkjaaW.PrintWords Go.Proofs.YtkhjoomjjdgkjaaW.PrintLast Go.Proofs.YtkhjoomjjdgkjaaW.PrintMore
set_option linter.unusedVariables false
set_option linter.unusedSimpArgs false
noncomputable def laws_FnDivisions.j0d (x6 : List Int) (x7 : List Int) (x8 : List Int) (x9 : List Int) (x11 : List Int) (x12 : List Int) (x103 : Bool) (x649000 : Int) (x649001 : Int) : Option (Bool) := lim (fun k => laws_FnDivisions.j0 k x6 x7 x8 x9 x11 x12 x103 x649000 x649001)
theorem laws_FnDivisions.j0lim (x6 : List Int) (x7 : List Int) (x8 : List Int) (x9 : List Int) (x11 : List Int) (x12 : List Int) (x103 : Bool) (x649000 : Int) (x649001 : Int) : IsLim (fun k => laws_FnDivisions.j0 k x6 x7 x8 x9 x11 x12 x103 x649000 x649001) (laws_FnDivisions.j0d x6 x7 x8 x9 x11 x12 x103 x649000 x649001) := lim_spec (fun k => (laws_FnDivisions.mono_l k) x6 x7 x8 x9 x11 x12 x103 x649000 x649001)
theorem laws_FnDivisions.j0d_eq (x6 : List Int) (x7 : List Int) (x8 : List Int) (x9 : List Int) (x11 : List Int) (x12 : List Int) (x103 : Bool) (x649000 : Int) (x649001 : Int) : laws_FnDivisions.j0d x6 x7 x8 x9 x11 x12 x103 x649000 x649001 = if x103 = true then (some false) else ((impl_ComposeLinear.d x649000 x649001 x8 x7).bind fun bt679 => ((impl_ComposeLinear.d x649000 x649001 x7 x11).bind fun bt683 => ((impl_SumLinear.d x649000 x649001 bt679.1 x9).bind fun bt687 => ((impl_SumLinear.d x649000 x649001 bt683.1 x12).bind fun bt691 => (if bt679.2 = 0 then (if bt683.2 = 0 then (if bt687.2 = 0 then (if bt691.2 = 0 then ((spec_SameList.d bt687.1 x6).bind fun t695 => (if t695 = true then ((spec_SameList.d bt691.1 x6).bind fun t696 => (some t696)) else (some false))) else (some false)) else (some false)) else (some false)) else (some false)))))) := by
  refine IsLim.unique (laws_FnDivisions.j0lim _ _ _ _ _ _ _ _ _) ?_
  refine IsLim.shift (by rfl) ?_
  simp only [laws_FnDivisions.j0]
  repeat' (first | exact IsLim.const _ | refine IsLim.ite ?_ ?_ | refine IsLim.bind ?_ (fun _ => ?_) | exact impl_ComposeLinear.lim .. | exact impl_SumLinear.lim .. | exact spec_SameList.lim ..)
noncomputable def laws_FnDivisions.d (l0 : List Int) (l1 : List Int) : Option (Bool) := lim (fun k => laws_FnDivisions.f k l0 l1)
theorem laws_FnDivisions.lim (l0 : List Int) (l1 : List Int) : IsLim (fun k => laws_FnDivisions.f k l0 l1) (laws_FnDivisions.d l0 l1) := lim_spec (fun k => laws_FnDivisions.mono l0 l1 k)
theorem laws_FnDivisions.d_eq (l0 : List Int) (l1 : List Int) : laws_FnDivisions.d l0 l1 = (laws_a2Long.f l0 l1).bind fun t645 => (if t645 = true then (some true) else ((spec_A2Field.d l0).bind fun bt646 => ((spec_A2Linear.d l1 bt646.1 bt646.2 7).bind fun t649 => ((some (([9] : List Int) : List Int)).bind fun y652 => (if y652.length + l0.length < 140737488355328 then ((spec_A2Linear.d (y652 ++ l0) bt646.1 bt646.2 4).bind fun t658 => ((impl_DivideRight.d bt646.1 bt646.2 t649 t658).bind fun bt661 => ((impl_DivideLeft.d bt646.1 bt646.2 t649 t658).bind fun bt668 => (if (t658.length : Int) = 0 then (if bt661.2.2 = 4 then (some (bt668.2.2 == 4)) else (some false)) else (if bt661.2.2 = 0 then (if bt668.2.2 = 0 then (if (bt661.2.1.length : Int) ≥ (t658.length : Int) then (laws_FnDivisions.j0d t649 t658 bt661.1 bt661.2.1 bt668.1 bt668.2.1 true bt646.1 bt646.2) else (if (bt668.2.1.length : Int) ≥ (t658.length : Int) then (laws_FnDivisions.j0d t649 t658 bt661.1 bt661.2.1 bt668.1 bt668.2.1 true bt646.1 bt646.2) else ((spec_ValidLinear.d bt646.1 bt646.2 bt661.1).bind fun t675 => (if t675 = true then ((spec_ValidLinear.d bt646.1 bt646.2 bt668.1).bind fun t676 => (if t676 = true then ((spec_ValidLinear.d bt646.1 bt646.2 bt661.2.1).bind fun t677 => (if t677 = true then ((spec_ValidLinear.d bt646.1 bt646.2 bt668.2.1).bind fun t678 => (laws_FnDivisions.j0d t649 t658 bt661.1 bt661.2.1 bt668.1 bt668.2.1 (!t678) bt646.1 bt646.2)) else (laws_FnDivisions.j0d t649 t658 bt661.1 bt661.2.1 bt668.1 bt668.2.1 true bt646.1 bt646.2))) else (laws_FnDivisions.j0d t649 t658 bt661.1 bt661.2.1 bt668.1 bt668.2.1 true bt646.1 bt646.2))) else (laws_FnDivisions.j0d t649 t658 bt661.1 bt661.2.1 bt668.1 bt668.2.1 true bt646.1 bt646.2))))) else (laws_FnDivisions.j0d t649 t658 bt661.1 bt661.2.1 bt668.1 bt668.2.1 true bt646.1 bt646.2)) else (laws_FnDivisions.j0d t649 t658 bt661.1 bt661.2.1 bt668.1 bt668.2.1 true bt646.1 bt646.2)))))) else (none)))))) := by
  refine IsLim.unique (laws_FnDivisions.lim _ _) ?_
  unfold laws_FnDivisions.f
  repeat' (first | exact IsLim.const _ | refine IsLim.ite ?_ ?_ | refine IsLim.bind ?_ (fun _ => ?_) | exact spec_A2Field.lim .. | exact spec_A2Linear.lim .. | exact impl_DivideRight.lim .. | exact impl_DivideLeft.lim .. | exact spec_ValidLinear.lim .. | exact laws_FnDivisions.j0lim ..)
end Go.Proofs.Ytkhjoomjjdgkjaa.P
end
section
namespace Go.Proofs.Ytkhjoomjjdgkjaa.P
open Go.RowKit Go.Proofs.YtkhjoomjjdgkjaaW.PrintWords Go.Proofs.YtkhjoomjjdgkjaaW.PrintLast Go.Proofs.YtkhjoomjjdgkjaaW.PrintMore
set_option linter.unusedVariables false
set_option linter.unusedSimpArgs false
theorem wr {x : Int} (h0 : -9223372036854775808 ≤ x) (h1 : x < 9223372036854775808) : wrap64 x = x := by
  unfold wrap64; omega
theorem wrS {i n : Nat} (h : i < n) (hn : n ≤ 17592186044416) : wrap64 ((i : Int) + 1) = ((i + 1 : Nat) : Int) := by rw [wr (by omega) (by omega)]; omega
theorem u64_id {x : Int} (h0 : 0 ≤ x) (h1 : x < 9223372036854775808) : IntKind.u64.wrap x = x := by rw [IntKind.wrap_u64]; omega
theorem down {Q : Nat → Prop} {n : Nat} (h0 : Q n) (hs : ∀ i, i < n → Q (i + 1) → Q i) : ∀ i, i ≤ n → Q i := by
  intro i hi
  obtain ⟨d, hd⟩ : ∃ d, d = n - i := ⟨_, rfl⟩
  induction d generalizing i with
  | zero => have : i = n := by omega
            exact this ▸ h0
  | succ d ih => exact hs i (by omega) (ih (i + 1) (by omega) (by omega))
theorem rd_get {l : List Int} {i : Nat} (h : i < l.length) : rd l (i : Int) = l[i] := rd_at l i h
theorem bind_some' {α β : Type} (a : α) (f : α → Option β) : (some a).bind f = f a := rfl
/-- the first place where `q` holds, by a walk upward -/
theorem index_gen {F : Int → Option Int} {n : Nat} {q : Nat → Bool} (hend : F (n : Int) = some (-1))
    (heq : ∀ i : Nat, i < n → F (i : Int) = if q i = true then some (i : Int) else F ((i + 1 : Nat) : Int)) :
    ∃ v, F 0 = some v ∧ (decide (v ≥ 0) = !decide (∀ i, i < n → q i = false)) ∧ (0 ≤ v → v.toNat < n ∧ q v.toNat = true ∧ ∀ j, j < v.toNat → q j = false) := by
  have key : ∀ i, i ≤ n → ∃ v, F (i : Int) = some v ∧ (v ≥ 0 ↔ ¬ ∀ j, i ≤ j → j < n → q j = false) ∧ (0 ≤ v → i ≤ v.toNat ∧ v.toNat < n ∧ q v.toNat = true ∧ ∀ j, i ≤ j → j < v.toNat → q j = false) := by
    apply down
    · exact ⟨-1, hend, ⟨fun h => absurd h (by decide), fun h => absurd (fun j _ _ => by omega) h⟩, fun h => absurd h (by decide)⟩
    · intro i hi ⟨v, e, c, d⟩
      rw [heq i hi]
      by_cases hq : q i = true
      · rw [if_pos hq]
        exact ⟨i, rfl, ⟨fun _ h => (by rw [h i (by omega) hi] at hq; cases hq), fun _ => by omega⟩, fun _ => ⟨by simp, by simpa using hi, by simpa using hq, fun j h1 h2 => by simp at h2; omega⟩⟩
      · rw [if_neg hq]
        have hq' : q i = false := Bool.eq_false_iff.mpr hq
        refine ⟨v, e, c.trans ⟨fun h h' => h fun j a b => h' j (by omega) b, fun h h' => h fun j a b => ?_⟩, fun h => ?_⟩
        · rcases Nat.lt_or_ge i j with z | z
          · exact h' j z b
          · have : j = i := by omega
            rw [this, hq']
        · obtain ⟨a1, a2, a3, a4⟩ := d h
          refine ⟨by omega, a2, a3, fun j h1 h2 => ?_⟩
          rcases Nat.lt_or_ge i j with z | z
          · exact a4 j z h2
          · have : j = i := by omega
            rw [this, hq']
  obtain ⟨v, e, c, d⟩ := key 0 (by omega)
  refine ⟨v, e, ?_, fun h => ⟨(d h).2.1, (d h).2.2.1, fun j hj => (d h).2.2.2 j (by omega) hj⟩⟩
  rw [← decide_not]
  apply decide_eq_decide.mpr
  exact c.trans ⟨fun h h' => h fun j _ b => h' j b, fun h h' => h fun j b => h' j (by omega) b⟩
theorem all_gen {F : Int → Option Bool} {n : Nat} {q : Nat → Bool} (hend : F (n : Int) = some true)
    (heq : ∀ i : Nat, i < n → F (i : Int) = if q i = true then F ((i + 1 : Nat) : Int) else some false) :
    F 0 = some (decide (∀ i, i < n → q i = true)) := by
  have key : ∀ i, i ≤ n → ∃ b, F (i : Int) = some b ∧ (b = true ↔ ∀ j, i ≤ j → j < n → q j = true) := by
    apply down
    · exact ⟨true, hend, ⟨fun _ j a b => by omega, fun _ => rfl⟩⟩
    · intro i hi ⟨b, e, c⟩
      rw [heq i hi, e]
      by_cases hq : q i = true
      · rw [if_pos hq]
        refine ⟨b, rfl, c.trans ⟨fun h j a b => ?_, fun h j a b => h j (by omega) b⟩⟩
        rcases Nat.lt_or_ge i j with z | z
        · exact h j z b
        · have : j = i := by omega
          rw [this, hq]
      · rw [if_neg hq]
        exact ⟨false, rfl, ⟨(fun h => absurd h (by decide)), fun h => absurd (h i (by omega) hi) hq⟩⟩
  obtain ⟨b, e, c⟩ := key 0 (by omega)
  have e' : F 0 = some b := e
  rw [e']
  congr 1
  rw [Bool.eq_iff_iff, decide_eq_true_iff]
  exact c.trans ⟨fun h j b => h j (by omega) b, fun h j _ b => h j b⟩
theorem all_get {l : List Int} {q : Int → Bool} : decide (∀ i, i < l.length → q (rd l (i : Int)) = true) = l.all q := by
  rw [Bool.eq_iff_iff, decide_eq_true_iff, List.all_eq_true]
  constructor
  · intro h x hx
    obtain ⟨i, hi, e⟩ := List.getElem_of_mem hx
    have := h i hi
    rwa [rd_get hi, e] at this
  · intro h i hi
    rw [rd_get hi]; exact h _ (List.getElem_mem hi)
end Go.Proofs.Ytkhjoomjjdgkjaa.P
end
section
namespace Go.Proofs.Ytkhjoomjjdgkjaa.P
open Go.RowKit Go.Proofs.YtkhjoomjjdgkjaaW.PrintWords Go.Proofs.YtkhjoomjjdgkjaaW.PrintLast Go.Proofs.YtkhjoomjjdgkjaaW.PrintMore
set_option linter.unusedVariables false
set_option linter.unusedSimpArgs false
theorem wrap_nat {n : Nat} (h : n < 9223372036854775808) : IntKind.i64.wrap (n : Int) = (n : Int) := by rw [IntKind.wrap_i64]; omega
theorem bits_nat {a : Nat} (ha : a < 9223372036854775808) : (BitVec.ofInt IntKind.i64.bits (a : Int)).toNat = a := by
  show (BitVec.ofInt 64 (a : Int)).toNat = a
  rw [BitVec.ofInt_natCast, BitVec.toNat_ofNat]
  exact Nat.mod_eq_of_lt (by omega)
theorem bxor {a b : Nat} (ha : a < 9223372036854775808) (hb : b < 9223372036854775808) : Go.bits .xor .i64 (a : Int) (b : Int) = ((a ^^^ b : Nat) : Int) := by
  show IntKind.i64.wrap ((BitVec.ofInt IntKind.i64.bits (a : Int) ^^^ BitVec.ofInt IntKind.i64.bits (b : Int)).toNat : Int) = _
  rw [BitVec.toNat_xor, bits_nat ha, bits_nat hb]
  exact wrap_nat (Nat.xor_lt_two_pow (n := 63) (by omega) (by omega))
theorem band {a b : Nat} (ha : a < 9223372036854775808) (hb : b < 9223372036854775808) : Go.bits .and .i64 (a : Int) (b : Int) = ((a &&& b : Nat) : Int) := by
  show IntKind.i64.wrap ((BitVec.ofInt IntKind.i64.bits (a : Int) &&& BitVec.ofInt IntKind.i64.bits (b : Int)).toNat : Int) = _
  rw [BitVec.toNat_and, bits_nat ha, bits_nat hb]
  exact wrap_nat (Nat.and_lt_two_pow (n := 63) a (by omega))
theorem shr_nat {a c : Nat} (hc : c ≤ 64) : shr .i64 (a : Int) (c : Int) = ((a >>> c : Nat) : Int) := by
  show (a : Int) / 2 ^ min (c : Int).toNat 64 = _
  rw [Int.toNat_natCast, Nat.min_eq_left hc, Nat.shiftRight_eq_div_pow]
  simp
theorem shl_nat {a c : Nat} (hc : c ≤ 64) (h : a * 2 ^ c < 9223372036854775808) : shl .i64 (a : Int) (c : Int) = ((a * 2 ^ c : Nat) : Int) := by
  show IntKind.i64.wrap ((a : Int) * 2 ^ min (c : Int).toNat 64) = _
  rw [Int.toNat_natCast, Nat.min_eq_left hc, ← wrap_nat h]
  simp
theorem bit_test {a c : Nat} (ha : a < 9223372036854775808) (hc : c ≤ 64) : Go.bits .and .i64 (shr .i64 (a : Int) (c : Int)) 1 = if a.testBit c = true then 1 else 0 := by
  rw [shr_nat hc]
  have h1 : a >>> c < 9223372036854775808 := by
    rw [Nat.shiftRight_eq_div_pow]
    exact Nat.lt_of_le_of_lt (Nat.div_le_self _ _) ha
  have := band (a := a >>> c) (b := 1) h1 (by omega)
  rw [show ((1 : Nat) : Int) = 1 from rfl] at this
  rw [this, Nat.testBit, Nat.and_comm 1]
  rw [Nat.and_one_is_mod]
  rcases Nat.mod_two_eq_zero_or_one (a >>> c) with e | e <;> rw [e] <;> simp
theorem lt_mono {x a b : Nat} (h : x < 2 ^ a) (hab : a ≤ b) : x < 2 ^ b := Nat.lt_of_lt_of_le h (Nat.pow_le_pow_right (by omega) hab)
theorem small62 {x n : Nat} (hn : n ≤ 63) (h : x < 2 ^ n) : x < 9223372036854775808 := Nat.lt_of_lt_of_le h (Nat.le_trans (Nat.pow_le_pow_right (by omega) hn) (by decide))
/-- rows as the program holds them -/
def up (l : List Nat) : List Int := l.map fun (x : Nat) => (x : Int)
theorem up_length (l : List Nat) : (up l).length = l.length := by simp [up]
theorem up_get {l : List Nat} {i : Nat} (h : i < l.length) : rd (up l) (i : Int) = (l[i] : Int) := by
  rw [rd_get (by rw [up_length]; exact h)]; simp [up]
theorem up_set {l : List Nat} {i x : Nat} : (up l).set i (x : Int) = up (l.set i x) := by simp [up, List.map_set]
theorem up_append (l l' : List Nat) : up (l ++ l') = up l ++ up l' := by simp [up]
theorem up_take (l : List Nat) (i : Nat) : (up l).take i = up (l.take i) := by simp [up, List.map_take]
theorem up_inj {a b : List Nat} (h : up a = up b) : a = b := by
  unfold up at h
  exact (List.map_inj_right (f := fun (x : Nat) => (x : Int)) (fun x y e => by have e : (x : Int) = (y : Int) := e; omega)).mp h
end Go.Proofs.Ytkhjoomjjdgkjaa.P
end
section
namespace Go.Proofs.Ytkhjoomjjdgkjaa.P
open Go.RowKit Go.Proofs.YtkhjoomjjdgkjaaW.PrintWords Go.Proofs.YtkhjoomjjdgkjaaW.PrintLast Go.Proofs.YtkhjoomjjdgkjaaW.PrintMore
set_option linter.unusedVariables false
set_option linter.unusedSimpArgs false
/-- the irreducible polynomials of degree 1 .. 5, as numbers -/
def irrs : List Int := [2, 3, 7, 11, 13, 19, 25, 31, 37, 41, 47, 55, 59, 61]
def irrB (p : Int) : Bool := irrs.contains p
/-- the fields: degree and polynomial -/
def fields14 : List (Int × Int) := [(1, 2), (1, 3), (2, 7), (3, 11), (3, 13), (4, 19), (4, 25), (4, 31), (5, 37), (5, 41), (5, 47), (5, 55), (5, 59), (5, 61)]
def validB (m p : Int) : Bool := fields14.contains (m, p)
theorem of_range {P : Int → Prop} (n : Nat) (lo : Int) (h : ∀ i, i < n → P (lo + i)) : ∀ x, lo ≤ x → x < lo + n → P x := by
  intro x h0 h1
  have := h (x - lo).toNat (by omega)
  rwa [show lo + ((x - lo).toNat : Int) = x by omega] at this
theorem i_irr_small : ∀ i, i < 62 → impl_IsIrreducible.f 80 (2 + (i : Nat)) = some (irrB (2 + (i : Nat))) := by decide +kernel
theorem irrB_big {p : Int} (h : p < 2 ∨ 64 ≤ p) : irrB p = false := by
  have : p ∉ irrs := by
    have hb : ∀ q ∈ irrs, 2 ≤ q ∧ q < 64 := by decide +kernel
    intro hp
    have := hb p hp
    omega
  unfold irrB
  rw [List.contains_eq_mem, decide_eq_false this]
theorem i_IsIrreducible_v (p : Int) : impl_IsIrreducible.d p = some (irrB p) := by
  by_cases h : p < 2
  · rw [impl_IsIrreducible.d_eq, if_pos h, impl_IsIrreducible.j0d_eq, if_pos rfl, irrB_big (.inl h)]
  · by_cases h2 : p < 64
    · have := of_range (P := fun p => impl_IsIrreducible.f 80 p = some (irrB p)) 62 2 i_irr_small p (by omega) (by omega)
      exact ((impl_IsIrreducible.lim p).2 _).mpr ⟨_, this⟩
    · rw [impl_IsIrreducible.d_eq, if_neg h, impl_IsIrreducible.j0d_eq, if_pos (by simp; omega), irrB_big (.inr (by omega))]
theorem irrB_mem {p : Int} (h : irrB p = true) : p ∈ irrs := by simpa [irrB] using h
theorem i_deg_irr {p : Int} (h : irrB p = true) : ∀ m, ((m, p) ∈ fields14) = (impl_degreeOf.d p = some m) := by
  have h := irrB_mem h
  have key : ∀ p ∈ irrs, ∃ m, impl_degreeOf.f 80 p = some m ∧ (m, p) ∈ fields14 ∧ ∀ m', (m', p) ∈ fields14 → m' = m := by
    have : ∀ p ∈ irrs, ∃ m ∈ [1, 2, 3, 4, 5], impl_degreeOf.f 80 p = some m ∧ (m, p) ∈ fields14 ∧ ∀ f ∈ fields14, f.2 = p → f.1 = m := by decide +kernel
    intro p hp
    obtain ⟨m, _, a, b, c⟩ := this p hp
    exact ⟨m, a, b, fun m' h' => c (m', p) h' rfl⟩
  intro m
  obtain ⟨m0, a, b, c⟩ := key p h
  have e : impl_degreeOf.d p = some m0 := ((impl_degreeOf.lim p).2 _).mpr ⟨_, a⟩
  rw [e]
  apply propext
  exact ⟨fun h => by rw [c m h], fun h => by cases h; exact b⟩
theorem deg_some {p : Int} (h : irrB p = true) : ∃ m, (m, p) ∈ fields14 := by
  have : ∀ p ∈ irrs, ∃ m ∈ [1, 2, 3, 4, 5], ((m, p) : Int × Int) ∈ fields14 := by decide +kernel
  obtain ⟨m, _, hm⟩ := this p (irrB_mem h)
  exact ⟨m, hm⟩
theorem fields_facts : ∀ f ∈ fields14, (1 ≤ f.1 ∧ f.1 ≤ 5) ∧ irrB f.2 = true := by decide +kernel
theorem valid_facts {m p : Int} (h : validB m p = true) : 1 ≤ m ∧ m ≤ 5 ∧ irrB p = true := by
  have h' : (m, p) ∈ fields14 := by simpa [validB] using h
  have := fields_facts _ h'
  exact ⟨this.1.1, this.1.2, this.2⟩
theorem validB_eq {m p : Int} : validB m p = decide ((m, p) ∈ fields14) := by simp [validB, List.contains_eq_mem]
theorem i_ValidField_v (m p : Int) : impl_ValidField.d m p = some (validB m p) := by
  rw [impl_ValidField.d_eq]
  unfold impl_within.f
  by_cases h1 : m ≥ 1
  · rw [if_pos h1, bind_some']
    by_cases h5 : m ≤ 5
    · rw [if_pos (by simpa using h5), i_IsIrreducible_v, bind_some']
      by_cases hi : irrB p = true
      · rw [if_pos hi]
        obtain ⟨m0, hm0⟩ := deg_some hi
        rw [i_deg_irr hi] at hm0
        rw [hm0, bind_some', validB_eq]
        have := i_deg_irr hi m
        rw [hm0] at this
        congr 1
        simp only [this, Option.some.injEq]
        by_cases e : m0 = m
        · simp [e]
        · simp [e]
      · rw [if_neg hi]
        congr 1
        have : ¬ validB m p = true := fun h => hi (valid_facts h).2.2
        exact (Bool.eq_false_iff.mpr this).symm
    · rw [if_neg (by simpa using h5)]
      have : ¬ validB m p = true := fun h => h5 (valid_facts h).2.1
      rw [Bool.eq_false_iff.mpr this]
  · rw [if_neg h1, bind_some', if_neg (by decide)]
    have : ¬ validB m p = true := fun h => h1 (valid_facts h).1
    rw [Bool.eq_false_iff.mpr this]
end Go.Proofs.Ytkhjoomjjdgkjaa.P
end
section
namespace Go.Proofs.Ytkhjoomjjdgkjaa.P
open Go.RowKit Go.Proofs.YtkhjoomjjdgkjaaW.PrintWords Go.Proofs.YtkhjoomjjdgkjaaW.PrintLast Go.Proofs.YtkhjoomjjdgkjaaW.PrintMore
set_option linter.unusedVariables false
set_option linter.unusedSimpArgs false
/-- the product of polynomials a and b, of b the places below n -/
def clm (a b : Nat) : Nat → Nat
  | 0 => 0
  | i + 1 => clm a b i ^^^ (if b.testBit i = true then a * 2 ^ i else 0)
/-- the rest of r by p, a polynomial of degree m: the places m + n - 1 .. m are cleared -/
def red (m p : Nat) (r : Nat) : Nat → Nat
  | 0 => r
  | i + 1 => red m p (if r.testBit (m + i) = true then r ^^^ (p * 2 ^ i) else r) i
/-- the product in the field -/
def fmul (m p a b : Nat) : Nat := red m p (clm a b m) m
theorem mul_pow_lt {a m i : Nat} (ha : a < 2 ^ m) : a * 2 ^ i < 2 ^ (m + i) := by
  rw [Nat.pow_add]; exact Nat.mul_lt_mul_of_pos_right ha (Nat.two_pow_pos i)
theorem clm_lt {a m : Nat} (ha : a < 2 ^ m) (b : Nat) : ∀ n, clm a b n < 2 ^ (m + n)
  | 0 => Nat.two_pow_pos _
  | n + 1 => by
    refine Nat.xor_lt_two_pow (lt_mono (clm_lt ha b n) (by omega)) ?_
    split
    · exact lt_mono (mul_pow_lt ha) (by omega)
    · exact Nat.two_pow_pos _
theorem clm_stop (a : Nat) {b i : Nat} (h : b < 2 ^ i) : ∀ n, clm a b (i + n) = clm a b i
  | 0 => rfl
  | n + 1 => by
    rw [← Nat.add_assoc, clm, clm_stop a h n, Nat.testBit_lt_two_pow (lt_mono h (by omega))]
    simp
theorem lt_of_bit {r k : Nat} (h : r < 2 ^ (k + 1)) (hb : r.testBit k = false) : r < 2 ^ k := by
  apply Nat.lt_pow_two_of_testBit
  intro i hi
  rcases Nat.lt_or_ge i (k + 1) with z | z
  · rw [show i = k by omega]; exact hb
  · exact Nat.testBit_lt_two_pow (lt_mono h z)
theorem red_step_lt {m p r i : Nat} (hp : p < 2 ^ (m + 1)) (hpb : p.testBit m = true) (hr : r < 2 ^ (m + (i + 1))) : (if r.testBit (m + i) = true then r ^^^ (p * 2 ^ i) else r) < 2 ^ (m + i) := by
  have h1 : p * 2 ^ i < 2 ^ (m + i + 1) := by
    have := mul_pow_lt (i := i) hp
    exact lt_mono this (by omega)
  split
  · rename_i c
    refine lt_of_bit (Nat.xor_lt_two_pow hr h1) ?_
    rw [Nat.testBit_xor, c, Nat.testBit_mul_two_pow]
    simp [hpb]
  · rename_i c
    exact lt_of_bit hr (Bool.eq_false_iff.mpr c)
theorem red_lt {m p : Nat} (hp : p < 2 ^ (m + 1)) (hpb : p.testBit m = true) : ∀ i r, r < 2 ^ (m + i) → red m p r i < 2 ^ m
  | 0, r, h => h
  | i + 1, r, h => by rw [red]; exact red_lt hp hpb i _ (red_step_lt hp hpb h)
theorem s_half {r : Nat} (h : r < 9223372036854775808) : wrap64 (Int.tdiv (r : Int) 2) = ((r / 2 : Nat) : Int) := by
  have e : Int.tdiv (r : Int) 2 = ((r / 2 : Nat) : Int) := (Int.ofNat_tdiv r 2).symm
  rw [e, wr (by omega) (by omega)]
theorem half_bit {r k : Nat} : (r / 2).testBit k = r.testBit (k + 1) := Nat.testBit_div_two ..
theorem half_lt {r k : Nat} (h : r < 2 ^ (k + 1)) : r / 2 < 2 ^ k := by rw [Nat.pow_succ] at h; omega
theorem bit_pos {r k : Nat} (h : r.testBit k = true) : 0 < r := by
  rcases Nat.eq_zero_or_pos r with rfl | z
  · rw [Nat.zero_testBit] at h; cases h
  · exact z
theorem spec_l01Degree.some_v : ∀ (k r : Nat) (o : Int), k ≤ 62 → r < 2 ^ (k + 1) → r.testBit k = true → -1 ≤ o → o + k ≤ 1000 → spec_l01Degree.l0d (r : Int) o = some (o + k + 1)
  | 0, r, o, hk, h, hb, h0, h1 => by
    have hr : r = 1 := by have := bit_pos hb; omega
    subst hr
    rw [spec_l01Degree.l0d_eq, if_pos (by omega), wr (x := o + 1) (by omega) (by omega), show wrap64 (Int.tdiv ((1 : Nat) : Int) 2) = ((1 / 2 : Nat) : Int) by (exact s_half (small62 (by omega) h)), spec_l01Degree.l0d_eq, if_neg (by decide)]; simp
  | k + 1, r, o, hk, h, hb, h0, h1 => by
    have := bit_pos hb
    rw [spec_l01Degree.l0d_eq, if_pos (by omega), wr (x := o + 1) (by omega) (by omega), show wrap64 (Int.tdiv (r : Int) 2) = ((r / 2 : Nat) : Int) by (exact s_half (small62 (by omega) h)), spec_l01Degree.some_v k (r / 2) (o + 1) (by omega) (half_lt h) (by rw [half_bit]; exact hb) (by omega) (by omega)]
    congr 1; omega
theorem spec_l01Degree.lt_v : ∀ (k r : Nat) (o : Int), k ≤ 62 → r < 2 ^ k → -1 ≤ o → o + k ≤ 1000 → ∃ d, spec_l01Degree.l0d (r : Int) o = some d ∧ d ≤ o + k
  | 0, r, o, hk, h, h0, h1 => ⟨o, by rw [spec_l01Degree.l0d_eq, if_neg (by have hz : r = 0 := (by simpa using h); omega)], by omega⟩
  | k + 1, r, o, hk, h, h0, h1 => by
    by_cases c : 0 < r
    · obtain ⟨d, e, hd⟩ := spec_l01Degree.lt_v k (r / 2) (o + 1) (by omega) (half_lt h) (by omega) (by omega)
      have hr62 := small62 (n := k + 1) (by omega) h
      exact ⟨d, by rw [spec_l01Degree.l0d_eq, if_pos (by omega), wr (x := o + 1) (by omega) (by omega), show wrap64 (Int.tdiv (r : Int) 2) = ((r / 2 : Nat) : Int) by (exact s_half (small62 (by omega) h)), e], by omega⟩
    · exact ⟨o, by rw [spec_l01Degree.l0d_eq, if_neg (by omega)], by omega⟩
theorem impl_degreeOf.some_v : ∀ (k r : Nat) (o : Int), k ≤ 62 → r < 2 ^ (k + 1) → r.testBit k = true → -1 ≤ o → o + k ≤ 1000 → impl_degreeOf.l0d (r : Int) o = some (o + k + 1)
  | 0, r, o, hk, h, hb, h0, h1 => by
    have hr : r = 1 := by have := bit_pos hb; omega
    subst hr
    rw [impl_degreeOf.l0d_eq, if_pos (by omega), wr (x := o + 1) (by omega) (by omega), show (((1 : Nat) : Int) / 2) = ((1 / 2 : Nat) : Int) by omega, impl_degreeOf.l0d_eq, if_neg (by decide)]; simp
  | k + 1, r, o, hk, h, hb, h0, h1 => by
    have := bit_pos hb
    rw [impl_degreeOf.l0d_eq, if_pos (by omega), wr (x := o + 1) (by omega) (by omega), show ((r : Int) / 2) = ((r / 2 : Nat) : Int) by omega, impl_degreeOf.some_v k (r / 2) (o + 1) (by omega) (half_lt h) (by rw [half_bit]; exact hb) (by omega) (by omega)]
    congr 1; omega
theorem impl_degreeOf.lt_v : ∀ (k r : Nat) (o : Int), k ≤ 62 → r < 2 ^ k → -1 ≤ o → o + k ≤ 1000 → ∃ d, impl_degreeOf.l0d (r : Int) o = some d ∧ d ≤ o + k
  | 0, r, o, hk, h, h0, h1 => ⟨o, by rw [impl_degreeOf.l0d_eq, if_neg (by have hz : r = 0 := (by simpa using h); omega)], by omega⟩
  | k + 1, r, o, hk, h, h0, h1 => by
    by_cases c : 0 < r
    · obtain ⟨d, e, hd⟩ := impl_degreeOf.lt_v k (r / 2) (o + 1) (by omega) (half_lt h) (by omega) (by omega)
      have hr62 := small62 (n := k + 1) (by omega) h
      exact ⟨d, by rw [impl_degreeOf.l0d_eq, if_pos (by omega), wr (x := o + 1) (by omega) (by omega), show ((r : Int) / 2) = ((r / 2 : Nat) : Int) by omega, e], by omega⟩
    · exact ⟨o, by rw [impl_degreeOf.l0d_eq, if_neg (by omega)], by omega⟩
theorem spec_l01Rest.loop_v {m p : Nat} (hm : m ≤ 5) (hp : p < 2 ^ (m + 1)) (hpb : p.testBit m = true) : ∀ i r : Nat, i ≤ 5 → r < 2 ^ (m + i) → spec_l01Rest.l0d (r : Int) (p : Int) (m : Int) = some ((red m p r i : Nat) : Int)
  | 0, r, hi, h => by
    obtain ⟨d, e, hd⟩ := spec_l01Degree.lt_v m r (-1) (by omega) h (by omega) (by omega)
    rw [spec_l01Rest.l0d_eq, spec_l01Degree.d_eq, e, bind_some', if_neg (by omega)]; rfl
  | i + 1, r, hi, h => by
    have st := red_step_lt (i := i) hp hpb h
    rw [red]
    by_cases c : r.testBit (m + i) = true
    · rw [if_pos c] at st ⊢
      have e : spec_l01Degree.d (r : Int) = some ((m + i : Nat) : Int) := by
        rw [spec_l01Degree.d_eq, spec_l01Degree.some_v (m + i) r (-1) (by omega) h c (by omega) (by omega)]; congr 1; omega
      have h1 : p * 2 ^ i < 2 ^ 12 := lt_mono (mul_pow_lt hp) (by omega)
      have h2 : r < 2 ^ 12 := lt_mono h (by omega)
      rw [spec_l01Rest.l0d_eq, e, bind_some', if_pos (by omega), bind_some', show (IntKind.u64.wrap (wrap64 (((m + i : Nat) : Int) - (m : Int)))) = (i : Int) by rw [wr (by omega) (by omega), u64_id (by omega) (by omega)]; omega, if_pos (by omega), shl_nat (by omega) (by omega), bxor (by omega) (by omega)]
      exact spec_l01Rest.loop_v hm hp hpb i _ (by omega) st
    · rw [if_neg c] at st ⊢
      exact spec_l01Rest.loop_v hm hp hpb i r (by omega) st
theorem spec_l01Rest.v {m p : Nat} (hm : m ≤ 5) (hp : p < 2 ^ (m + 1)) (hpb : p.testBit m = true) {r : Nat} (h : r < 2 ^ (m + m)) : spec_l01Rest.d (r : Int) (p : Int) = some ((red m p r m : Nat) : Int) := by
  rw [spec_l01Rest.d_eq, spec_l01Degree.d_eq, spec_l01Degree.some_v m p (-1) (by omega) hp hpb (by omega) (by omega), bind_some', show (-1 + (m : Int) + 1) = m by omega]
  exact spec_l01Rest.loop_v hm hp hpb m r (by omega) h
theorem impl_restOf.loop_v {m p : Nat} (hm : m ≤ 5) (hp : p < 2 ^ (m + 1)) (hpb : p.testBit m = true) : ∀ i r : Nat, i ≤ 5 → r < 2 ^ (m + i) → impl_restOf.l0d (r : Int) (p : Int) (m : Int) = some ((red m p r i : Nat) : Int)
  | 0, r, hi, h => by
    obtain ⟨d, e, hd⟩ := impl_degreeOf.lt_v m r (-1) (by omega) h (by omega) (by omega)
    rw [impl_restOf.l0d_eq, impl_degreeOf.d_eq, e, bind_some', if_neg (by omega)]; rfl
  | i + 1, r, hi, h => by
    have st := red_step_lt (i := i) hp hpb h
    rw [red]
    by_cases c : r.testBit (m + i) = true
    · rw [if_pos c] at st ⊢
      have e : impl_degreeOf.d (r : Int) = some ((m + i : Nat) : Int) := by
        rw [impl_degreeOf.d_eq, impl_degreeOf.some_v (m + i) r (-1) (by omega) h c (by omega) (by omega)]; congr 1; omega
      have h1 : p * 2 ^ i < 2 ^ 12 := lt_mono (mul_pow_lt hp) (by omega)
      have h2 : r < 2 ^ 12 := lt_mono h (by omega)
      rw [impl_restOf.l0d_eq, e, bind_some', if_pos (by omega), bind_some', show wrap64 (((m + i : Nat) : Int) - (m : Int)) = (i : Int) by rw [wr (by omega) (by omega)]; omega, if_pos (by omega), shl_nat (by omega) (by omega), bxor (by omega) (by omega)]
      exact impl_restOf.loop_v hm hp hpb i _ (by omega) st
    · rw [if_neg c] at st ⊢
      exact impl_restOf.loop_v hm hp hpb i r (by omega) st
theorem impl_restOf.v {m p : Nat} (hm : m ≤ 5) (hp : p < 2 ^ (m + 1)) (hpb : p.testBit m = true) {r : Nat} (h : r < 2 ^ (m + m)) : impl_restOf.d (r : Int) (p : Int) = some ((red m p r m : Nat) : Int) := by
  rw [impl_restOf.d_eq, impl_degreeOf.d_eq, impl_degreeOf.some_v m p (-1) (by omega) hp hpb (by omega) (by omega), bind_some', show (-1 + (m : Int) + 1) = m by omega]
  exact impl_restOf.loop_v hm hp hpb m r (by omega) h
theorem fields_bits : ∀ f ∈ fields14, 0 ≤ f.2 ∧ f.2.toNat < 2 ^ (f.1.toNat + 1) ∧ f.2.toNat.testBit f.1.toNat = true := by decide +kernel
theorem valid_nat {m p : Int} (h : validB m p = true) : ∃ M P : Nat, m = (M : Int) ∧ p = (P : Int) ∧ 1 ≤ M ∧ M ≤ 5 := by
  have h' : (m, p) ∈ fields14 := by simpa [validB] using h
  have h2 := fields_bits _ h'
  have h3 := valid_facts h
  exact ⟨m.toNat, p.toNat, by omega, by simp only at h2; omega, by omega, by omega⟩
theorem valid_bits {M P : Nat} (h : validB (M : Int) (P : Int) = true) : 1 ≤ M ∧ M ≤ 5 ∧ P < 2 ^ (M + 1) ∧ P.testBit M = true := by
  have h' : ((M : Int), (P : Int)) ∈ fields14 := by simpa [validB] using h
  have h2 := fields_bits _ h'
  have h3 := valid_facts h
  exact ⟨by omega, by omega, h2.2.1, h2.2.2⟩
theorem fmul_lt {M P : Nat} (h : validB (M : Int) (P : Int) = true) {a : Nat} (ha : a < 2 ^ M) (b : Nat) : fmul M P a b < 2 ^ M := by
  have hv := valid_bits h
  exact red_lt hv.2.2.1 hv.2.2.2 M _ (clm_lt ha b M)
end Go.Proofs.Ytkhjoomjjdgkjaa.P
end
section
namespace Go.Proofs.Ytkhjoomjjdgkjaa.P
open Go.RowKit Go.Proofs.YtkhjoomjjdgkjaaW.PrintWords Go.Proofs.YtkhjoomjjdgkjaaW.PrintLast Go.Proofs.YtkhjoomjjdgkjaaW.PrintMore
set_option linter.unusedVariables false
set_option linter.unusedSimpArgs false
/-- x squared k times -/
def fsq (m p : Nat) : Nat → Nat → Nat
  | 0, x => x
  | k + 1, x => fsq m p k (fmul m p x x)
theorem fsq_lt {M P : Nat} (h : validB (M : Int) (P : Int) = true) : ∀ (k : Nat) {x : Nat}, x < 2 ^ M → fsq M P k x < 2 ^ M
  | 0, x, hx => hx
  | k + 1, x, hx => fsq_lt h k (fmul_lt h hx x)
theorem tmod_nat (k M : Nat) : Int.tmod (k : Int) (M : Int) = ((k % M : Nat) : Int) := (Int.ofNat_tmod k M).symm
end Go.Proofs.Ytkhjoomjjdgkjaa.P
end
section
namespace Go.Proofs.Ytkhjoomjjdgkjaa.P
open Go.RowKit Go.Proofs.YtkhjoomjjdgkjaaW.PrintWords Go.Proofs.YtkhjoomjjdgkjaaW.PrintLast Go.Proofs.YtkhjoomjjdgkjaaW.PrintMore
set_option linter.unusedVariables false
set_option linter.unusedSimpArgs false
theorem mul_pow_xor (x y m : Nat) : (x ^^^ y) * 2 ^ m = x * 2 ^ m ^^^ y * 2 ^ m := by
  apply Nat.eq_of_testBit_eq
  intro i
  simp only [Nat.testBit_xor, Nat.testBit_mul_two_pow]
  cases decide (m ≤ i) <;> simp
theorem xor4 (a b c d : Nat) : (a ^^^ b) ^^^ (c ^^^ d) = (a ^^^ c) ^^^ (b ^^^ d) := by
  rw [Nat.xor_assoc, Nat.xor_assoc, ← Nat.xor_assoc b, Nat.xor_comm b c, Nat.xor_assoc]
theorem clm_xor_l (a a' b : Nat) : ∀ n, clm (a ^^^ a') b n = clm a b n ^^^ clm a' b n
  | 0 => by simp [clm]
  | n + 1 => by
    rw [clm, clm, clm, clm_xor_l a a' b n, xor4]
    congr 1
    split
    · exact mul_pow_xor a a' n
    · rfl
theorem clm_xor_r (a b b' : Nat) : ∀ n, clm a (b ^^^ b') n = clm a b n ^^^ clm a b' n
  | 0 => by simp [clm]
  | n + 1 => by
    rw [clm, clm, clm, clm_xor_r a b b' n, xor4, Nat.testBit_xor]
    congr 1
    cases b.testBit n <;> cases b'.testBit n <;> simp
theorem red_xor (m p : Nat) : ∀ i x y, red m p (x ^^^ y) i = red m p x i ^^^ red m p y i
  | 0, _, _ => rfl
  | i + 1, x, y => by
    rw [red, red, red, ← red_xor m p i, Nat.testBit_xor]
    congr 1
    cases x.testBit (m + i) <;> cases y.testBit (m + i)
    · simp
    · simp [Nat.xor_assoc]
    · simp only [Bool.xor_false, if_true, Bool.false_eq_true, if_false]
      rw [Nat.xor_assoc, Nat.xor_comm y, ← Nat.xor_assoc]
    · simp only [Bool.xor_self, if_true, Bool.false_eq_true, if_false]
      rw [xor4, Nat.xor_self, Nat.xor_zero]
theorem fmul_xor_l (m p a a' b : Nat) : fmul m p (a ^^^ a') b = fmul m p a b ^^^ fmul m p a' b := by unfold fmul; rw [clm_xor_l, red_xor]
theorem fmul_xor_r (m p a b b' : Nat) : fmul m p a (b ^^^ b') = fmul m p a b ^^^ fmul m p a b' := by unfold fmul; rw [clm_xor_r, red_xor]
theorem fmul_0l (m p b : Nat) : fmul m p 0 b = 0 := by
  have := fmul_xor_l m p 0 0 b
  rw [Nat.xor_self, Nat.xor_self] at this; exact this
theorem fmul_0r (m p a : Nat) : fmul m p a 0 = 0 := by
  have := fmul_xor_r m p a 0 0
  rw [Nat.xor_self, Nat.xor_self] at this; exact this
theorem basis_ind {Q : Nat → Prop} (h0 : Q 0) (hx : ∀ x y, Q x → Q y → Q (x ^^^ y)) : ∀ m, (∀ i, i < m → Q (2 ^ i)) → ∀ x, x < 2 ^ m → Q x
  | 0, _, x, h => by have : x = 0 := by simpa using h
                     rw [this]; exact h0
  | m + 1, hb, x, h => by
    by_cases c : x.testBit m = true
    · have h2 : x ^^^ 2 ^ m < 2 ^ m := by
        apply Nat.lt_pow_two_of_testBit
        intro j hj
        rw [Nat.testBit_xor, Nat.testBit_two_pow]
        by_cases e : m = j
        · subst e; simp [c]
        · rw [Nat.testBit_lt_two_pow (Nat.lt_of_lt_of_le h (Nat.pow_le_pow_right (by omega) (by omega)))]; simp [e]
      have := hx _ _ (basis_ind h0 hx m (fun i hi => hb i (by omega)) _ h2) (hb m (by omega))
      rwa [Nat.xor_assoc, Nat.xor_self, Nat.xor_zero] at this
    · refine basis_ind h0 hx m (fun i hi => hb i (by omega)) x ?_
      apply Nat.lt_pow_two_of_testBit
      intro j hj
      by_cases e : m = j
      · subst e; exact Bool.eq_false_iff.mpr c
      · exact Nat.testBit_lt_two_pow (Nat.lt_of_lt_of_le h (Nat.pow_le_pow_right (by omega) (by omega)))
def algB (m p : Nat) : Bool := (List.range m).all fun i => fmul m p (2 ^ i) 1 == 2 ^ i && (List.range m).all fun j => fmul m p (2 ^ i) (2 ^ j) == fmul m p (2 ^ j) (2 ^ i) && (List.range m).all fun k => fmul m p (fmul m p (2 ^ i) (2 ^ j)) (2 ^ k) == fmul m p (2 ^ i) (fmul m p (2 ^ j) (2 ^ k))
theorem alg_all : (fields14.all fun f => algB f.1.toNat f.2.toNat) = true := by decide +kernel
theorem alg_of {M P : Nat} (h : validB (M : Int) (P : Int) = true) : algB M P = true := by
  have h' : ((M : Int), (P : Int)) ∈ fields14 := by simpa [validB] using h
  have := List.all_eq_true.mp alg_all _ h'
  simpa using this
theorem alg_get {M P : Nat} (h : validB (M : Int) (P : Int) = true) {i : Nat} (hi : i < M) : fmul M P (2 ^ i) 1 = 2 ^ i ∧ ∀ j, j < M → fmul M P (2 ^ i) (2 ^ j) = fmul M P (2 ^ j) (2 ^ i) ∧ ∀ k, k < M → fmul M P (fmul M P (2 ^ i) (2 ^ j)) (2 ^ k) = fmul M P (2 ^ i) (fmul M P (2 ^ j) (2 ^ k)) := by
  have a := alg_of h
  unfold algB at a
  have a1 := List.all_eq_true.mp a i (List.mem_range.mpr hi)
  rw [Bool.and_eq_true] at a1
  refine ⟨by simpa using a1.1, fun j hj => ?_⟩
  have a2 := List.all_eq_true.mp a1.2 j (List.mem_range.mpr hj)
  rw [Bool.and_eq_true] at a2
  refine ⟨by simpa using a2.1, fun k hk => ?_⟩
  simpa using List.all_eq_true.mp a2.2 k (List.mem_range.mpr hk)
theorem fmul_1 {M P : Nat} (h : validB (M : Int) (P : Int) = true) {a : Nat} (ha : a < 2 ^ M) : fmul M P a 1 = a :=
  basis_ind (Q := fun a => fmul M P a 1 = a) (fmul_0l _ _ _) (fun x y hx hy => by show fmul M P (x ^^^ y) 1 = _; rw [fmul_xor_l, hx, hy]) M (fun i hi => (alg_get h hi).1) a ha
theorem fmul_comm {M P : Nat} (h : validB (M : Int) (P : Int) = true) {a b : Nat} (ha : a < 2 ^ M) (hb : b < 2 ^ M) : fmul M P a b = fmul M P b a := by
  refine basis_ind (Q := fun a => fmul M P a b = fmul M P b a) (by show fmul M P 0 b = fmul M P b 0; rw [fmul_0l, fmul_0r]) (fun x y hx hy => by show fmul M P (x ^^^ y) b = fmul M P b (x ^^^ y); rw [fmul_xor_l, fmul_xor_r, hx, hy]) M (fun i hi => ?_) a ha
  exact basis_ind (Q := fun b => fmul M P (2 ^ i) b = fmul M P b (2 ^ i)) (by show fmul M P _ 0 = fmul M P 0 _; rw [fmul_0l, fmul_0r]) (fun x y hx hy => by show fmul M P _ (x ^^^ y) = fmul M P (x ^^^ y) _; rw [fmul_xor_l, fmul_xor_r, hx, hy]) M (fun j hj => ((alg_get h hi).2 j hj).1) b hb
theorem fmul_assoc {M P : Nat} (h : validB (M : Int) (P : Int) = true) {a b c : Nat} (ha : a < 2 ^ M) (hb : b < 2 ^ M) (hc : c < 2 ^ M) : fmul M P (fmul M P a b) c = fmul M P a (fmul M P b c) := by
  refine basis_ind (Q := fun a => fmul M P (fmul M P a b) c = fmul M P a (fmul M P b c)) (by show fmul M P (fmul M P 0 b) c = _; rw [fmul_0l, fmul_0l, fmul_0l]) (fun x y hx hy => by show fmul M P (fmul M P (x ^^^ y) b) c = fmul M P (x ^^^ y) _; rw [fmul_xor_l, fmul_xor_l, fmul_xor_l, hx, hy]) M (fun i hi => ?_) a ha
  refine basis_ind (Q := fun b => fmul M P (fmul M P (2 ^ i) b) c = fmul M P (2 ^ i) (fmul M P b c)) (by show fmul M P (fmul M P _ 0) c = fmul M P _ (fmul M P 0 c); rw [fmul_0r, fmul_0l, fmul_0r]) (fun x y hx hy => by show fmul M P (fmul M P _ (x ^^^ y)) c = fmul M P _ (fmul M P (x ^^^ y) c); rw [fmul_xor_r, fmul_xor_l, fmul_xor_l, fmul_xor_r, hx, hy]) M (fun j hj => ?_) b hb
  exact basis_ind (Q := fun c => fmul M P (fmul M P (2 ^ i) (2 ^ j)) c = fmul M P (2 ^ i) (fmul M P (2 ^ j) c)) (by show fmul M P _ 0 = fmul M P _ (fmul M P _ 0); rw [fmul_0r, fmul_0r, fmul_0r]) (fun x y hx hy => by show fmul M P _ (x ^^^ y) = fmul M P _ (fmul M P _ (x ^^^ y)); rw [fmul_xor_r, fmul_xor_r, fmul_xor_r, hx, hy]) M (fun k hk => ((alg_get h hi).2 j hj).2 k hk) c hc
/-- a power as a product -/
def npow (m p a : Nat) : Nat → Nat
  | 0 => 1
  | n + 1 => fmul m p (npow m p a n) a
theorem one_lt {M P : Nat} (h : validB (M : Int) (P : Int) = true) : 1 < 2 ^ M := Nat.one_lt_two_pow (by have := valid_bits h; omega)
theorem npow_lt {M P : Nat} (h : validB (M : Int) (P : Int) = true) {a : Nat} (ha : a < 2 ^ M) : ∀ n, npow M P a n < 2 ^ M
  | 0 => one_lt h
  | n + 1 => fmul_lt h (npow_lt h ha n) a
theorem npow_sq {M P : Nat} (h : validB (M : Int) (P : Int) = true) {a : Nat} (ha : a < 2 ^ M) : ∀ q, npow M P (fmul M P a a) q = npow M P a (2 * q)
  | 0 => rfl
  | q + 1 => by
    rw [show 2 * (q + 1) = 2 * q + 1 + 1 by omega, npow, npow, npow, npow_sq h ha q, fmul_assoc h (npow_lt h ha _) ha ha]
theorem fsq_xor {M P : Nat} (h : validB (M : Int) (P : Int) = true) : ∀ (k : Nat) {x y : Nat}, x < 2 ^ M → y < 2 ^ M → fsq M P k (x ^^^ y) = fsq M P k x ^^^ fsq M P k y
  | 0, _, _, _, _ => rfl
  | k + 1, x, y, hx, hy => by
    rw [fsq, fsq, fsq, ← fsq_xor h k (fmul_lt h hx x) (fmul_lt h hy y)]
    congr 1
    rw [fmul_xor_l, fmul_xor_r, fmul_xor_r, fmul_comm h hy hx, Nat.xor_assoc, ← Nat.xor_assoc (fmul M P x y), Nat.xor_self, Nat.zero_xor]
end Go.Proofs.Ytkhjoomjjdgkjaa.P
end
section
namespace Go.Proofs.Ytkhjoomjjdgkjaa.P
open Go.RowKit Go.Proofs.YtkhjoomjjdgkjaaW.PrintWords Go.Proofs.YtkhjoomjjdgkjaaW.PrintLast Go.Proofs.YtkhjoomjjdgkjaaW.PrintMore
set_option linter.unusedVariables false
set_option linter.unusedSimpArgs false
theorem and255 (x : Int) : 0 ≤ Go.bits .and .u64 x 255 ∧ Go.bits .and .u64 x 255 ≤ 255 := by
  have e : Go.bits .and .u64 x 255 = IntKind.u64.wrap ((BitVec.ofInt IntKind.u64.bits x &&& BitVec.ofInt IntKind.u64.bits 255).toNat : Int) := rfl
  rw [e, BitVec.toNat_and]
  have h : (BitVec.ofInt IntKind.u64.bits x).toNat &&& (BitVec.ofInt IntKind.u64.bits 255).toNat ≤ 255 := Nat.and_le_right
  generalize (BitVec.ofInt IntKind.u64.bits x).toNat &&& (BitVec.ofInt IntKind.u64.bits 255).toNat = z at h
  rw [IntKind.wrap_u64]
  omega
def Bytes (l : List Int) : Prop := ∀ x ∈ l, 0 ≤ x ∧ x ≤ 255
theorem byte_at {l : List Int} (hb : Bytes l) {i : Int} : 0 ≤ rd l i ∧ rd l i ≤ 255 := by
  by_cases h : i.toNat < l.length
  · have : rd l i = l[i.toNat] := by simp [rd, List.getD, h]
    rw [this]; exact hb _ (List.getElem_mem h)
  · have : rd l i = 0 := by simp [rd, List.getD, h]
    rw [this]; omega
theorem next_v {l : List Int} (hb : Bytes l) (hl : l.length ≤ 4000) {a : Int} (h0 : 0 ≤ a) (h1 : a ≤ 1000000) (s : Int) : ∃ v t, spec_l00Src_next.f l a s = some (v, a + 1, t) ∧ 0 ≤ v ∧ v ≤ 255 := by
  unfold spec_l00Src_next.f
  have hby := byte_at hb (i := a)
  have ha : wrap64 (a + 1) = a + 1 := wr (by omega) (by omega)
  rw [ha]
  by_cases c : a < (l.length : Int)
  · rw [if_pos c, if_pos h0, if_pos (by omega), wr (x := rd l a) (by omega) (by omega)]
    exact ⟨_, _, rfl, hby.1, hby.2⟩
  · rw [if_neg c, if_neg (by omega)]
    have := and255 ((IntKind.u64.wrap ((IntKind.u64.wrap ((IntKind.u64.wrap (s * 6364136223846793005)))) + 1442695040888963407)) / 1099511627776)
    rw [wr (x := Go.bits .and .u64 _ 255) (by omega) (by omega)]
    exact ⟨_, _, rfl, this.1, this.2⟩
theorem tmod_pos {v n : Int} (h0 : 0 ≤ v) (hn : 0 < n) : 0 ≤ Int.tmod v n ∧ Int.tmod v n < n := ⟨Int.tmod_nonneg _ h0, Int.tmod_lt_of_pos _ hn⟩
theorem pick_v {l : List Int} (hb : Bytes l) (hl : l.length ≤ 4000) {a : Int} (h0 : 0 ≤ a) (h1 : a ≤ 900000) (s n : Int) (hn : n ≤ 100000) :
    ∃ v b t, spec_l00Src_pick.f l a s n = some (v, b, t) ∧ 0 ≤ v ∧ (1 ≤ n → v < n) ∧ v ≤ 100000 ∧ a ≤ b ∧ b ≤ a + 2 := by
  unfold spec_l00Src_pick.f
  by_cases c : n ≤ 1
  · rw [if_pos c]; exact ⟨0, a, s, rfl, by omega, fun _ => by omega, by omega, by omega, by omega⟩
  · rw [if_neg c]
    obtain ⟨v, t, e, v0, v1⟩ := next_v hb hl h0 (by omega) s
    rw [e, bind_some']
    by_cases d : n > 200
    · obtain ⟨v', t', e', v0', v1'⟩ := next_v hb hl (a := a + 1) (by omega) (by omega) t
      have e2 : spec_l00Src_next.f l (v, a + 1, t).2.1 (v, a + 1, t).2.2 = some (v', a + 1 + 1, t') := e'
      rw [if_pos d, e2, bind_some', if_neg (by omega)]
      have w : wrap64 (wrap64 ((v, a + 1, t).1 * 256) + (v', a + 1 + 1, t').1) = v * 256 + v' := by
        show wrap64 (wrap64 (v * 256) + v') = _
        rw [wr (x := v * 256) (by omega) (by omega), wr (by omega) (by omega)]
      rw [w]
      have := tmod_pos (v := v * 256 + v') (n := n) (by omega) (by omega)
      exact ⟨_, _, _, rfl, this.1, fun _ => this.2, by omega, by show a ≤ a + 1 + 1; omega, by show a + 1 + 1 ≤ a + 2; omega⟩
    · rw [if_neg d, if_neg (by omega)]
      have := tmod_pos (v := v) (n := n) v0 (by omega)
      exact ⟨_, _, _, rfl, this.1, fun _ => this.2, by show Int.tmod v n ≤ _; omega, by show a ≤ a + 1; omega, by show a + 1 ≤ a + 2; omega⟩
theorem bytes_of {l : List Int} (h : ∀ x ∈ l, (Lit.int .u8 x).wf = true) : Bytes l := by
  intro x hx
  have := h x hx
  have e1 : IntKind.u8.min = 0 := by decide
  have e2 : IntKind.u8.max = 255 := by decide
  simp [Lit.wf, e1, e2] at this
  omega
end Go.Proofs.Ytkhjoomjjdgkjaa.P
end
section
namespace Go.Proofs.Ytkhjoomjjdgkjaa.P
open Go.RowKit Go.Proofs.YtkhjoomjjdgkjaaW.PrintWords Go.Proofs.YtkhjoomjjdgkjaaW.PrintLast Go.Proofs.YtkhjoomjjdgkjaaW.PrintMore
set_option linter.unusedVariables false
set_option linter.unusedSimpArgs false
/-- a number of m places -/
def elemB (m x : Int) : Bool := decide (0 ≤ x) && decide (x < 2 ^ m.toNat)
end Go.Proofs.Ytkhjoomjjdgkjaa.P
end
section
namespace Go.Proofs.Ytkhjoomjjdgkjaa.P
open Go.RowKit Go.Proofs.YtkhjoomjjdgkjaaW.PrintWords Go.Proofs.YtkhjoomjjdgkjaaW.PrintLast Go.Proofs.YtkhjoomjjdgkjaaW.PrintMore
set_option linter.unusedVariables false
set_option linter.unusedSimpArgs false
theorem m_cases {m p : Int} (h : validB m p = true) : m = 1 ∨ m = 2 ∨ m = 3 ∨ m = 4 ∨ m = 5 := by
  have := valid_facts h; omega
theorem i_count_v {m p : Int} (h : validB m p = true) (q : Int) : impl_Field_count.f m q = some (2 ^ m.toNat) := by
  rcases m_cases h with rfl | rfl | rfl | rfl | rfl <;> rfl
theorem s_l01Size_v {m p : Int} (h : validB m p = true) (q : Int) : spec_l01Size.f m q = some (2 ^ m.toNat) := by
  rcases m_cases h with rfl | rfl | rfl | rfl | rfl <;> rfl
theorem pow_bound {m p : Int} (h : validB m p = true) : (2 : Int) ≤ 2 ^ m.toNat ∧ (2 : Int) ^ m.toNat ≤ 32 := by
  rcases m_cases h with rfl | rfl | rfl | rfl | rfl <;> decide
theorem i_has_1_v {m p : Int} (h : validB m p = true) (q x : Int) : impl_Field_has_1.f x m q = some (!(elemB m x)) := by
  unfold impl_Field_has_1.f impl_within.f elemB
  have hb := pow_bound h
  rw [i_count_v h, bind_some', wr (by omega) (by omega)]
  by_cases c : 0 ≤ x
  · rw [if_pos (by omega), bind_some']
    simp only [decide_eq_true c, Bool.true_and]
    congr 2
    apply decide_eq_decide.mpr; omega
  · rw [if_neg (by omega), bind_some']
    simp only [decide_eq_false c, Bool.false_and]
theorem i_has_v {m p : Int} (h : validB m p = true) (q : Int) {l : List Int} (hl : l.length ≤ 17592186044416) : impl_Field_has.d m q l = some (l.all (elemB m)) := by
  rw [impl_Field_has.d_eq, slices_ContainsFunc_int64_int64_AT_impl_Field_has_1.d_eq, slices_IndexFunc_int64_int64_AT_impl_Field_has_1.d_eq]
  obtain ⟨v, e, c, _⟩ := index_gen (F := fun i => slices_IndexFunc_int64_int64_AT_impl_Field_has_1.l0d l (l.length : Int) i m q) (n := l.length) (q := fun i => !(elemB m (rd l (i : Int))))
    (by show slices_IndexFunc_int64_int64_AT_impl_Field_has_1.l0d l (l.length : Int) (l.length : Int) m q = _
        rw [slices_IndexFunc_int64_int64_AT_impl_Field_has_1.l0d_eq, if_neg (by omega)])
    (by intro i hi
        show slices_IndexFunc_int64_int64_AT_impl_Field_has_1.l0d l (l.length : Int) (i : Int) m q = _
        rw [slices_IndexFunc_int64_int64_AT_impl_Field_has_1.l0d_eq, if_pos (by omega), if_pos (by omega), if_pos (by omega), i_has_1_v h, bind_some', wrS hi hl])
  have e' : slices_IndexFunc_int64_int64_AT_impl_Field_has_1.l0d l (l.length : Int) 0 m q = some v := e
  rw [e', bind_some', bind_some', c, Bool.not_not]
  congr 1
  rw [← all_get]
  apply decide_eq_decide.mpr
  simp only [Bool.not_eq_false']
end Go.Proofs.Ytkhjoomjjdgkjaa.P
end
section
namespace Go.Proofs.Ytkhjoomjjdgkjaa.P
open Go.RowKit Go.Proofs.YtkhjoomjjdgkjaaW.PrintWords Go.Proofs.YtkhjoomjjdgkjaaW.PrintLast Go.Proofs.YtkhjoomjjdgkjaaW.PrintMore
set_option linter.unusedVariables false
set_option linter.unusedSimpArgs false
theorem fields_v : ∀ d : Nat, 1 ≤ d → d ≤ 5 → ∃ L, spec_l01Fields.d (d : Int) = some L ∧ 1 ≤ L.length ∧ L.length ≤ 6 ∧ ∀ i, i < L.length → validB (rd_T27 L ((i : Nat) : Int)).f0 (rd_T27 L ((i : Nat) : Int)).f1 = true := by
  intro d h1 h5
  have hd : d = 1 ∨ d = 2 ∨ d = 3 ∨ d = 4 ∨ d = 5 := by omega
  rcases hd with rfl | rfl | rfl | rfl | rfl
  · exact ⟨[⟨1, 2⟩, ⟨1, 3⟩], ((spec_l01Fields.lim 1).2 _).mpr ⟨100, by kernel_rfl⟩, by decide, by decide, by decide +kernel⟩
  · exact ⟨[⟨2, 7⟩], ((spec_l01Fields.lim 2).2 _).mpr ⟨100, by kernel_rfl⟩, by decide, by decide, by decide +kernel⟩
  · exact ⟨[⟨3, 11⟩, ⟨3, 13⟩], ((spec_l01Fields.lim 3).2 _).mpr ⟨100, by kernel_rfl⟩, by decide, by decide, by decide +kernel⟩
  · exact ⟨[⟨4, 19⟩, ⟨4, 25⟩, ⟨4, 31⟩], ((spec_l01Fields.lim 4).2 _).mpr ⟨100, by kernel_rfl⟩, by decide, by decide, by decide +kernel⟩
  · exact ⟨[⟨5, 37⟩, ⟨5, 41⟩, ⟨5, 47⟩, ⟨5, 55⟩, ⟨5, 59⟩, ⟨5, 61⟩], ((spec_l01Fields.lim 5).2 _).mpr ⟨100, by kernel_rfl⟩, by decide, by decide, by decide +kernel⟩
theorem among_v : ∀ v : Nat, v < 7 → ∃ d : Nat, rd [1, 2, 3, 3, 4, 4, 5] (v : Int) = (d : Int) ∧ 1 ≤ d ∧ d ≤ 5 := by
  intro v hv
  have : v = 0 ∨ v = 1 ∨ v = 2 ∨ v = 3 ∨ v = 4 ∨ v = 5 ∨ v = 6 := by omega
  rcases this with rfl | rfl | rfl | rfl | rfl | rfl | rfl
  · exact ⟨1, rfl, by omega, by omega⟩
  · exact ⟨2, rfl, by omega, by omega⟩
  · exact ⟨3, rfl, by omega, by omega⟩
  · exact ⟨3, rfl, by omega, by omega⟩
  · exact ⟨4, rfl, by omega, by omega⟩
  · exact ⟨4, rfl, by omega, by omega⟩
  · exact ⟨5, rfl, by omega, by omega⟩
theorem field_v {l : List Int} (hb : Bytes l) (hl : l.length ≤ 3000) : ∃ M Q : Nat, spec_A2Field.d l = some ((M : Int), (Q : Int)) ∧ validB (M : Int) (Q : Int) = true := by
  obtain ⟨v, b, t, e, v0, v1, _, g, g'⟩ := pick_v hb (Nat.le_trans hl (by decide)) (a := 0) (by omega) (by omega) 0 7 (by omega)
  obtain ⟨V, rfl⟩ : ∃ V : Nat, v = (V : Int) := ⟨v.toNat, by omega⟩
  have hV : V < 7 := by have := v1 (by omega); omega
  obtain ⟨d, ed, d1, d5⟩ := among_v V hV
  obtain ⟨L, eL, L1, L6, hL⟩ := fields_v d d1 d5
  obtain ⟨w, b2, t2, e2, w0, w1, _, _, _⟩ := pick_v hb (Nat.le_trans hl (by decide)) (a := b) (by omega) (by omega) t (L.length : Int) (by omega)
  obtain ⟨W, rfl⟩ : ∃ W : Nat, w = (W : Int) := ⟨w.toNat, by omega⟩
  have hW : W < L.length := by have := w1 (by omega); omega
  have hv := hL W hW
  obtain ⟨M, Q, eM, eQ, _, _⟩ := valid_nat hv
  refine ⟨M, Q, ?_, by rw [← eM, ← eQ]; exact hv⟩
  have ha : spec_l00Src_among.f l 0 0 [1, 2, 3, 3, 4, 4, 5] = some ((d : Int), b, t) := by
    unfold spec_l00Src_among.f
    rw [show (([1, 2, 3, 3, 4, 4, 5] : List Int).length : Int) = 7 from rfl, e, bind_some', if_pos (by show 0 ≤ (V : Int); omega), if_pos (by show (V : Int) < 7; omega)]
    show some (rd [1, 2, 3, 3, 4, 4, 5] (V : Int), b, t) = _
    rw [ed]
  rw [spec_A2Field.d_eq]
  unfold spec_l00From.f
  rw [bind_some']
  show (spec_l01Drawn.d l 0 0).bind _ = _
  rw [spec_l01Drawn.d_eq, ha, bind_some']
  show ((spec_l01Fields.d (d : Int)).bind _).bind _ = _
  rw [eL, bind_some']
  show ((spec_l00Src_pick.f l b t (L.length : Int)).bind _).bind _ = _
  rw [e2, bind_some', if_pos (by show 0 ≤ (W : Int); omega), if_pos (by show (W : Int) < (L.length : Int); omega), bind_some']
  show some ((rd_T27 L (W : Int)).f0, (rd_T27 L (W : Int)).f1) = _
  rw [eM, eQ]
theorem size_nat {M Q : Nat} (h : validB (M : Int) (Q : Int) = true) (q : Int) : spec_l01Size.f (M : Int) q = some ((2 ^ M : Nat) : Int) := by
  rw [s_l01Size_v h, Int.toNat_natCast]; simp
theorem elemB_nat2 {N x : Nat} (h : x < 2 ^ N) : elemB (N : Int) (x : Int) = true := by
  unfold elemB
  have e : ((2 ^ N : Nat) : Int) = (2 : Int) ^ N := by simp
  simp only [Bool.and_eq_true, decide_eq_true_eq, Int.toNat_natCast]
  omega
theorem long_v {l0 l1 : List Int} (h : ¬ (l0.length ≤ 3000 ∧ l1.length ≤ 3000)) : laws_a2Long.f l0 l1 = some true := by
  unfold laws_a2Long.f
  by_cases c0 : (l0.length : Int) > 3000
  · rw [if_pos c0]
  · rw [if_neg c0, decide_eq_true (by omega)]
theorem short_v {l0 l1 : List Int} (h0 : l0.length ≤ 3000) (h1 : l1.length ≤ 3000) : laws_a2Long.f l0 l1 = some false := by
  unfold laws_a2Long.f
  rw [if_neg (by omega), decide_eq_false (by omega)]
end Go.Proofs.Ytkhjoomjjdgkjaa.P
end
section
namespace Go.Proofs.Ytkhjoomjjdgkjaa.P
open Go.RowKit Go.Proofs.YtkhjoomjjdgkjaaW.PrintWords Go.Proofs.YtkhjoomjjdgkjaaW.PrintLast Go.Proofs.YtkhjoomjjdgkjaaW.PrintMore
set_option linter.unusedVariables false
set_option linter.unusedSimpArgs false
noncomputable def spec_l01Mul.l0d (x1 : Int) (x2 : Int) (x7 : Int) (x8 : Int) (x133000 : Int) (x133001 : Int) : Option (Int) := lim (fun k => spec_l01Mul.l0 k x1 x2 x7 x8 x133000 x133001)
theorem spec_l01Mul.l0lim (x1 : Int) (x2 : Int) (x7 : Int) (x8 : Int) (x133000 : Int) (x133001 : Int) : IsLim (fun k => spec_l01Mul.l0 k x1 x2 x7 x8 x133000 x133001) (spec_l01Mul.l0d x1 x2 x7 x8 x133000 x133001) := lim_spec (fun k => (spec_l01Mul.mono_l k) x1 x2 x7 x8 x133000 x133001)
theorem spec_l01Mul.l0d_eq (x1 : Int) (x2 : Int) (x7 : Int) (x8 : Int) (x133000 : Int) (x133001 : Int) : spec_l01Mul.l0d x1 x2 x7 x8 x133000 x133001 = if x8 < x133000 then (if 0 ≤ (IntKind.u64.wrap (x8)) then (if (Go.bits .and .i64 (shr .i64 x2 (IntKind.u64.wrap (x8))) 1) = 1 then (spec_l01Mul.l0d x1 x2 (Go.bits .xor .i64 x7 (shl .i64 x1 (IntKind.u64.wrap (x8)))) (wrap64 (x8 + 1)) x133000 x133001) else (spec_l01Mul.l0d x1 x2 x7 (wrap64 (x8 + 1)) x133000 x133001)) else (none)) else ((spec_l01Rest.d x7 x133001).bind fun t133 => (some t133)) := by
  refine IsLim.unique (spec_l01Mul.l0lim _ _ _ _ _ _) ?_
  refine IsLim.shift (by rfl) ?_
  simp only [spec_l01Mul.l0]
  repeat' (first | exact IsLim.const _ | refine IsLim.ite ?_ ?_ | refine IsLim.bind ?_ (fun _ => ?_) | exact spec_l01Rest.lim .. | exact spec_l01Mul.l0lim ..)
noncomputable def spec_l01Mul.d (a0_0 : Int) (a0_1 : Int) (a1 : Int) (a2 : Int) : Option (Int) := lim (fun k => spec_l01Mul.f k a0_0 a0_1 a1 a2)
theorem spec_l01Mul.lim (a0_0 : Int) (a0_1 : Int) (a1 : Int) (a2 : Int) : IsLim (fun k => spec_l01Mul.f k a0_0 a0_1 a1 a2) (spec_l01Mul.d a0_0 a0_1 a1 a2) := lim_spec (fun k => spec_l01Mul.mono a0_0 a0_1 a1 a2 k)
theorem spec_l01Mul.d_eq (a0_0 : Int) (a0_1 : Int) (a1 : Int) (a2 : Int) : spec_l01Mul.d a0_0 a0_1 a1 a2 = spec_l01Mul.l0d a1 a2 0 0 a0_0 a0_1 := by
  refine IsLim.unique (spec_l01Mul.lim _ _ _ _) ?_
  unfold spec_l01Mul.f
  repeat' (first | exact IsLim.const _ | refine IsLim.ite ?_ ?_ | refine IsLim.bind ?_ (fun _ => ?_) | exact spec_l01Mul.l0lim ..)
noncomputable def spec_l01Square.l0d (x1 : Int) (x2 : Int) (x140000 : Int) (x140001 : Int) : Option (Int) := lim (fun k => spec_l01Square.l0 k x1 x2 x140000 x140001)
theorem spec_l01Square.l0lim (x1 : Int) (x2 : Int) (x140000 : Int) (x140001 : Int) : IsLim (fun k => spec_l01Square.l0 k x1 x2 x140000 x140001) (spec_l01Square.l0d x1 x2 x140000 x140001) := lim_spec (fun k => (spec_l01Square.mono_l k) x1 x2 x140000 x140001)
theorem spec_l01Square.l0d_eq (x1 : Int) (x2 : Int) (x140000 : Int) (x140001 : Int) : spec_l01Square.l0d x1 x2 x140000 x140001 = if x2 > 0 then ((spec_l01Mul.d x140000 x140001 x1 x1).bind fun t140 => (spec_l01Square.l0d t140 (wrap64 (x2 - 1)) x140000 x140001)) else (some x1) := by
  refine IsLim.unique (spec_l01Square.l0lim _ _ _ _) ?_
  refine IsLim.shift (by rfl) ?_
  simp only [spec_l01Square.l0]
  repeat' (first | exact IsLim.const _ | refine IsLim.ite ?_ ?_ | refine IsLim.bind ?_ (fun _ => ?_) | exact spec_l01Mul.lim .. | exact spec_l01Square.l0lim ..)
noncomputable def spec_l01Square.d (a0_0 : Int) (a0_1 : Int) (a1 : Int) (a2 : Int) : Option (Int) := lim (fun k => spec_l01Square.f k a0_0 a0_1 a1 a2)
theorem spec_l01Square.lim (a0_0 : Int) (a0_1 : Int) (a1 : Int) (a2 : Int) : IsLim (fun k => spec_l01Square.f k a0_0 a0_1 a1 a2) (spec_l01Square.d a0_0 a0_1 a1 a2) := lim_spec (fun k => spec_l01Square.mono a0_0 a0_1 a1 a2 k)
theorem spec_l01Square.d_eq (a0_0 : Int) (a0_1 : Int) (a1 : Int) (a2 : Int) : spec_l01Square.d a0_0 a0_1 a1 a2 = if a0_0 = 0 then (none) else (spec_l01Square.l0d a1 (Int.tmod a2 a0_0) a0_0 a0_1) := by
  refine IsLim.unique (spec_l01Square.lim _ _ _ _) ?_
  unfold spec_l01Square.f
  repeat' (first | exact IsLim.const _ | refine IsLim.ite ?_ ?_ | refine IsLim.bind ?_ (fun _ => ?_) | exact spec_l01Square.l0lim ..)
noncomputable def spec_l03Sum.l0d (x1 : List Int) (x5 : List Int) : Option (List Int) := lim (fun k => spec_l03Sum.l0 k x1 x5)
theorem spec_l03Sum.l0lim (x1 : List Int) (x5 : List Int) : IsLim (fun k => spec_l03Sum.l0 k x1 x5) (spec_l03Sum.l0d x1 x5) := lim_spec (fun k => (spec_l03Sum.mono_l k).1 x1 x5)
noncomputable def spec_l03Sum.l1d (x1 : List Int) (x5 : List Int) (x6 : Int) : Option (List Int) := lim (fun k => spec_l03Sum.l1 k x1 x5 x6)
theorem spec_l03Sum.l1lim (x1 : List Int) (x5 : List Int) (x6 : Int) : IsLim (fun k => spec_l03Sum.l1 k x1 x5 x6) (spec_l03Sum.l1d x1 x5 x6) := lim_spec (fun k => (spec_l03Sum.mono_l k).2 x1 x5 x6)
theorem spec_l03Sum.l0d_eq (x1 : List Int) (x5 : List Int) : spec_l03Sum.l0d x1 x5 = if (x5.length : Int) < (x1.length : Int) then (if x5.length < 17592186044416 then (spec_l03Sum.l0d x1 (x5 ++ [0])) else (none)) else (spec_l03Sum.l1d x1 x5 0) := by
  refine IsLim.unique (spec_l03Sum.l0lim _ _) ?_
  refine IsLim.shift (by rfl) ?_
  simp only [spec_l03Sum.l0]
  repeat' (first | exact IsLim.const _ | refine IsLim.ite ?_ ?_ | refine IsLim.bind ?_ (fun _ => ?_) | exact spec_l03Sum.l0lim .. | exact spec_l03Sum.l1lim ..)
theorem spec_l03Sum.l1d_eq (x1 : List Int) (x5 : List Int) (x6 : Int) : spec_l03Sum.l1d x1 x5 x6 = if x6 < (x1.length : Int) then (if 0 ≤ x6 then (if x6 < (x5.length : Int) then (spec_l03Sum.l1d x1 (x5.set (x6 : Int).toNat (Go.bits .xor .i64 (rd x5 x6) (rd x1 x6))) (wrap64 (x6 + 1))) else (none)) else (none)) else ((spec_l03Trim.d x5).bind fun t163 => (some t163)) := by
  refine IsLim.unique (spec_l03Sum.l1lim _ _ _) ?_
  refine IsLim.shift (by rfl) ?_
  simp only [spec_l03Sum.l1]
  repeat' (first | exact IsLim.const _ | refine IsLim.ite ?_ ?_ | refine IsLim.bind ?_ (fun _ => ?_) | exact spec_l03Trim.lim .. | exact spec_l03Sum.l1lim ..)
noncomputable def spec_l03Sum.d (l0 : List Int) (l1 : List Int) : Option (List Int) := lim (fun k => spec_l03Sum.f k l0 l1)
theorem spec_l03Sum.lim (l0 : List Int) (l1 : List Int) : IsLim (fun k => spec_l03Sum.f k l0 l1) (spec_l03Sum.d l0 l1) := lim_spec (fun k => spec_l03Sum.mono l0 l1 k)
theorem spec_l03Sum.d_eq (l0 : List Int) (l1 : List Int) : spec_l03Sum.d l0 l1 = (spec_l00Own.f l0).bind fun t154 => (spec_l03Sum.l0d l1 t154) := by
  refine IsLim.unique (spec_l03Sum.lim _ _) ?_
  unfold spec_l03Sum.f
  repeat' (first | exact IsLim.const _ | refine IsLim.ite ?_ ?_ | refine IsLim.bind ?_ (fun _ => ?_) | exact spec_l03Sum.l0lim ..)
end Go.Proofs.Ytkhjoomjjdgkjaa.P
end
section
namespace Go.Proofs.Ytkhjoomjjdgkjaa.P
open Go.RowKit Go.Proofs.YtkhjoomjjdgkjaaW.PrintWords Go.Proofs.YtkhjoomjjdgkjaaW.PrintLast Go.Proofs.YtkhjoomjjdgkjaaW.PrintMore
set_option linter.unusedVariables false
set_option linter.unusedSimpArgs false
theorem s_mul_v {M P : Nat} (h : validB (M : Int) (P : Int) = true) {a b : Nat} (ha : a < 2 ^ M) (hb : b < 2 ^ M) : spec_l01Mul.d (M : Int) (P : Int) (a : Int) (b : Int) = some ((fmul M P a b : Nat) : Int) := by
  have hv := valid_bits h
  have hb5 : b < 2 ^ 5 := lt_mono hb hv.2.1
  have key : ∀ i, i ≤ M → spec_l01Mul.l0d (a : Int) (b : Int) ((clm a b i : Nat) : Int) (i : Int) (M : Int) (P : Int) = some ((fmul M P a b : Nat) : Int) := by
    apply down
    · rw [spec_l01Mul.l0d_eq, if_neg (by omega), spec_l01Rest.v hv.2.1 hv.2.2.1 hv.2.2.2 (clm_lt ha b M)]; rfl
    · intro i hi e
      have h1 : a * 2 ^ i < 2 ^ 10 := lt_mono (mul_pow_lt ha) (by omega)
      have h2 : clm a b i < 2 ^ 10 := lt_mono (clm_lt ha b i) (by omega)
      rw [spec_l01Mul.l0d_eq, if_pos (by omega), u64_id (by omega) (by omega), if_pos (by omega), bit_test (by omega) (by omega), wrS hi (by omega), ← e, clm]
      by_cases c : b.testBit i = true
      · rw [if_pos c, if_pos rfl, if_pos c, shl_nat (by omega) (by omega), bxor (by omega) (by omega)]
      · rw [if_neg c, if_neg (by decide), if_neg c, Nat.xor_zero]
  rw [spec_l01Mul.d_eq]
  exact key 0 (by omega)
end Go.Proofs.Ytkhjoomjjdgkjaa.P
end
section
namespace Go.Proofs.Ytkhjoomjjdgkjaa.P
open Go.RowKit Go.Proofs.YtkhjoomjjdgkjaaW.PrintWords Go.Proofs.YtkhjoomjjdgkjaaW.PrintLast Go.Proofs.YtkhjoomjjdgkjaaW.PrintMore
set_option linter.unusedVariables false
set_option linter.unusedSimpArgs false
theorem i_product_v {M a b : Nat} (hM : M ≤ 5) (ha : a < 2 ^ M) (hb : b < 2 ^ M) : impl_product.d (a : Int) (b : Int) = some ((clm a b M : Nat) : Int) := by
  have hb5 : b < 2 ^ 5 := lt_mono hb hM
  have key : ∀ i, i ≤ M → impl_product.l0d ((a * 2 ^ i : Nat) : Int) ((b / 2 ^ i : Nat) : Int) ((clm a b i : Nat) : Int) = some ((clm a b M : Nat) : Int) := by
    apply down
    · rw [impl_product.l0d_eq, if_neg (by rw [Nat.div_eq_of_lt hb]; decide)]
    · intro i hi e
      have h1 : a * 2 ^ i < 2 ^ 10 := lt_mono (mul_pow_lt ha) (by omega)
      have h2 : clm a b i < 2 ^ 10 := lt_mono (clm_lt ha b i) (by omega)
      have h3 : b / 2 ^ i ≤ b := Nat.div_le_self _ _
      by_cases z : b / 2 ^ i = 0
      · have z' : b < 2 ^ i := by
          apply Classical.byContradiction
          intro w
          have := Nat.div_pos (Nat.le_of_not_lt w) (Nat.two_pow_pos i)
          omega
        rw [impl_product.l0d_eq, if_neg (by omega)]
        have := clm_stop a z' (M - i)
        rw [show i + (M - i) = M by omega] at this
        rw [this]
      · have e1 : wrap64 (((a * 2 ^ i : Nat) : Int) * 2) = ((a * 2 ^ (i + 1) : Nat) : Int) := by
          rw [wr (by omega) (by omega), Nat.pow_succ, ← Nat.mul_assoc]; simp
        have e2 : ((b / 2 ^ i : Nat) : Int) / 2 = ((b / 2 ^ (i + 1) : Nat) : Int) := by
          rw [Nat.pow_succ, ← Nat.div_div_eq_div_mul]; generalize b / 2 ^ i = q; omega
        have e3 : Go.bits .and .i64 ((b / 2 ^ i : Nat) : Int) 1 = if b.testBit i = true then 1 else 0 := by
          have := band (a := b / 2 ^ i) (b := 1) (by omega) (by omega)
          rw [show ((1 : Nat) : Int) = 1 from rfl] at this
          rw [this, Nat.and_one_is_mod, Nat.testBit_eq_decide_div_mod_eq]
          rcases Nat.mod_two_eq_zero_or_one (b / 2 ^ i) with w | w <;> rw [w] <;> simp
        rw [impl_product.l0d_eq, if_pos (Int.natCast_pos.mpr (Nat.pos_of_ne_zero z)), e1, e2, e3, ← e, clm]
        by_cases c : b.testBit i = true
        · rw [if_pos c, if_pos rfl, if_pos c, bxor (by omega) (by omega)]
        · rw [if_neg c, if_neg (by decide), if_neg c, Nat.xor_zero]
  rw [impl_product.d_eq]
  have := key 0 (by omega)
  simpa [clm] using this
theorem i_mul_v {M P : Nat} (h : validB (M : Int) (P : Int) = true) {a b : Nat} (ha : a < 2 ^ M) (hb : b < 2 ^ M) : impl_Field_mul.d (M : Int) (P : Int) (a : Int) (b : Int) = some ((fmul M P a b : Nat) : Int) := by
  have hv := valid_bits h
  rw [impl_Field_mul.d_eq, i_product_v hv.2.1 ha hb, bind_some', impl_restOf.v hv.2.1 hv.2.2.1 hv.2.2.2 (clm_lt ha b M)]; rfl
end Go.Proofs.Ytkhjoomjjdgkjaa.P
end
section
namespace Go.Proofs.Ytkhjoomjjdgkjaa.P
open Go.RowKit Go.Proofs.YtkhjoomjjdgkjaaW.PrintWords Go.Proofs.YtkhjoomjjdgkjaaW.PrintLast Go.Proofs.YtkhjoomjjdgkjaaW.PrintMore
set_option linter.unusedVariables false
set_option linter.unusedSimpArgs false
theorem half_step (n : Nat) : n = 2 * (n / 2) + (if n.testBit 0 = true then 1 else 0) := by
  rw [Nat.testBit_zero]
  by_cases c : n % 2 = 1
  · simp [c]; omega
  · simp [c]; omega
theorem bit0_v {n : Nat} (h : n < 9223372036854775808) : Go.bits .and .i64 (n : Int) 1 = if n.testBit 0 = true then 1 else 0 := by
  have := band (a := n) (b := 1) h (by omega)
  rw [show ((1 : Nat) : Int) = 1 from rfl] at this
  rw [this, Nat.and_one_is_mod, Nat.testBit_zero]
  rcases Nat.mod_two_eq_zero_or_one n with w | w <;> rw [w] <;> simp
theorem i_pow_loop {M P : Nat} (h : validB (M : Int) (P : Int) = true) : ∀ (f n a o : Nat), n ≤ f → n ≤ 100000 → a < 2 ^ M → o < 2 ^ M → impl_Field_power.l0d (a : Int) (n : Int) (o : Int) (M : Int) (P : Int) = some ((fmul M P o (npow M P a n) : Nat) : Int)
  | 0, n, a, o, hf, _, ha, ho => by
    have : n = 0 := by omega
    subst this
    rw [impl_Field_power.l0d_eq, if_neg (by decide), npow, fmul_1 h ho]
  | f + 1, n, a, o, hf, hn, ha, ho => by
    by_cases z : n = 0
    · subst z
      rw [impl_Field_power.l0d_eq, if_neg (by decide), npow, fmul_1 h ho]
    · have hs := half_step n
      have e2 : ((n : Int) / 2) = ((n / 2 : Nat) : Int) := by omega
      rw [impl_Field_power.l0d_eq, if_pos (by omega), bit0_v (by omega), e2]
      have sq := fmul_lt h ha a
      by_cases c : n.testBit 0 = true
      · rw [if_pos c] at hs ⊢
        rw [if_pos rfl, i_mul_v h ho ha, bind_some', i_mul_v h ha ha, bind_some', i_pow_loop h f (n / 2) _ _ (by omega) (by omega) sq (fmul_lt h ho a), npow_sq h ha]
        have hn2 := npow_lt h ha (2 * (n / 2))
        rw [fmul_assoc h ho ha hn2, fmul_comm h ha hn2]
        conv => rhs; rw [hs, npow]
      · rw [if_neg c] at hs ⊢
        rw [if_neg (by decide), i_mul_v h ha ha, bind_some', i_pow_loop h f (n / 2) _ _ (by omega) (by omega) sq ho, npow_sq h ha]
        conv => rhs; rw [hs, Nat.add_zero]
theorem fmul_1l {M P : Nat} (h : validB (M : Int) (P : Int) = true) {a : Nat} (ha : a < 2 ^ M) : fmul M P 1 a = a := by rw [fmul_comm h (one_lt h) ha, fmul_1 h ha]
theorem i_power_v {M P : Nat} (h : validB (M : Int) (P : Int) = true) {n a : Nat} (hn : n ≤ 100000) (ha : a < 2 ^ M) : impl_Field_power.d (M : Int) (P : Int) (a : Int) (n : Int) = some ((npow M P a n : Nat) : Int) := by
  rw [impl_Field_power.d_eq]
  have := i_pow_loop h n n a 1 (Nat.le_refl _) hn ha (one_lt h)
  rw [fmul_1l h (npow_lt h ha n)] at this
  exact this
end Go.Proofs.Ytkhjoomjjdgkjaa.P
end
section
namespace Go.Proofs.Ytkhjoomjjdgkjaa.P
open Go.RowKit Go.Proofs.YtkhjoomjjdgkjaaW.PrintWords Go.Proofs.YtkhjoomjjdgkjaaW.PrintLast Go.Proofs.YtkhjoomjjdgkjaaW.PrintMore
set_option linter.unusedVariables false
set_option linter.unusedSimpArgs false
theorem up_zeros (n : Nat) : List.replicate n (0 : Int) = up (List.replicate n 0) := by simp [up]
theorem set_bound {l : List Nat} {B i v : Nat} (h : ∀ y ∈ l, y < B) (hv : v < B) : ∀ y ∈ l.set i v, y < B := by
  intro y hy
  rcases List.mem_or_eq_of_mem_set hy with z | z
  · exact h y z
  · rw [z]; exact hv
theorem zeros_bound {n B : Nat} (hB : 0 < B) : ∀ y ∈ List.replicate n 0, y < B := fun y hy => by rw [List.eq_of_mem_replicate hy]; exact hB
theorem trim_both {l : List Int} (hl : l.length ≤ 1073741824) : ∃ k, k ≤ l.length ∧ impl_trim.d l = some (l.take k) ∧ spec_l03Trim.d l = some (l.take k) := by
  have own : ∀ n, n ≤ l.length → spec_l00Own.f (l.take n) = some (l.take n) := by
    intro n hn
    unfold spec_l00Own.f
    rw [bind_some', if_pos (by simp; omega), List.nil_append]
  have key : ∀ n, n ≤ l.length → ∃ k, k ≤ n ∧ impl_trim.l0d (l.take n) = some (l.take k) ∧ spec_l03Trim.l0d l (n : Int) = some (l.take k) := by
    intro n
    induction n with
    | zero =>
      intro _
      refine ⟨0, by omega, ?_, ?_⟩
      · rw [impl_trim.l0d_eq, if_neg (by simp)]
      · rw [spec_l03Trim.l0d_eq, if_neg (by omega), if_pos (by omega), if_pos (by omega)]
        show (spec_l00Own.f (l.take 0)).bind _ = _
        rw [own 0 (by omega), bind_some']
    | succ n ih =>
      intro hn
      have hlen : (l.take (n + 1)).length = n + 1 := by rw [List.length_take]; omega
      have hw : wrap64 (((l.take (n + 1)).length : Int) - 1) = (n : Int) := by rw [hlen, wr (by omega) (by omega)]; omega
      have hw' : wrap64 (((n + 1 : Nat) : Int) - 1) = (n : Int) := by rw [wr (by omega) (by omega)]; omega
      have hr : rd (l.take (n + 1)) (n : Int) = rd l (n : Int) := by
        rw [rd_get (show n < (l.take (n + 1)).length by omega), rd_get (show n < l.length by omega), List.getElem_take]
      have si : impl_trim.l0d (l.take (n + 1)) = if rd l (n : Int) = 0 then impl_trim.l0d (l.take n) else some (l.take (n + 1)) := by
        rw [impl_trim.l0d_eq, if_pos (by omega), hw, if_pos (by omega), if_pos (by omega), if_pos (show (n : Int) ≤ ((l.take (n + 1)).length : Int) by omega), hr, Int.toNat_natCast, List.take_take, Nat.min_eq_left (by omega)]
      have ss : spec_l03Trim.l0d l ((n + 1 : Nat) : Int) = if rd l (n : Int) = 0 then spec_l03Trim.l0d l (n : Int) else some (l.take (n + 1)) := by
        rw [spec_l03Trim.l0d_eq, if_pos (by omega), hw', if_pos (by omega), if_pos (by omega), if_pos (show (0 : Int) ≤ ((n + 1 : Nat) : Int) by omega), if_pos (show ((n + 1 : Nat) : Int) ≤ (l.length : Int) by omega), Int.toNat_natCast, own (n + 1) hn, bind_some']
      rw [si, ss]
      by_cases c : rd l (n : Int) = 0
      · rw [if_pos c, if_pos c]
        obtain ⟨k, k1, k2, k3⟩ := ih (by omega)
        exact ⟨k, by omega, k2, k3⟩
      · rw [if_neg c, if_neg c]
        exact ⟨n + 1, by omega, rfl, rfl⟩
  obtain ⟨k, k1, k2, k3⟩ := key l.length (by omega)
  rw [List.take_length] at k2
  exact ⟨k, k1, by rw [impl_trim.d_eq, k2], by rw [spec_l03Trim.d_eq, k3]⟩
/-- the same over numbers below a bound -/
theorem trim_up {ln : List Nat} {B : Nat} (hl : ln.length ≤ 1073741824) (hb : ∀ y ∈ ln, y < B) : ∃ rn : List Nat, rn.length ≤ ln.length ∧ (∀ y ∈ rn, y < B) ∧ impl_trim.d (up ln) = some (up rn) ∧ spec_l03Trim.d (up ln) = some (up rn) := by
  obtain ⟨k, _, k2, k3⟩ := trim_both (l := up ln) (by rw [up_length]; exact hl)
  rw [up_take] at k2 k3
  exact ⟨ln.take k, by rw [List.length_take]; omega, fun y hy => hb y (List.mem_of_mem_take hy), k2, k3⟩
end Go.Proofs.Ytkhjoomjjdgkjaa.P
end
section
namespace Go.Proofs.Ytkhjoomjjdgkjaa.P
open Go.RowKit Go.Proofs.YtkhjoomjjdgkjaaW.PrintWords Go.Proofs.YtkhjoomjjdgkjaaW.PrintLast Go.Proofs.YtkhjoomjjdgkjaaW.PrintMore
set_option linter.unusedVariables false
set_option linter.unusedSimpArgs false
def invB (m p : Nat) : Bool := (List.range (2 ^ m)).all fun a => (a == 0 || fmul m p (npow m p a (2 ^ m - 2)) a == 1) && (List.range m).all fun k => (a == 0 || !(fsq m p k a == 0)) && fsq m p k (fsq m p ((m - k) % m) a) == a
theorem inv_all : (fields14.all fun f => invB f.1.toNat f.2.toNat) = true := by decide +kernel
theorem inv_get {M P : Nat} (h : validB (M : Int) (P : Int) = true) {a : Nat} (ha : a < 2 ^ M) : (a ≠ 0 → fmul M P (npow M P a (2 ^ M - 2)) a = 1) ∧ ∀ k, k < M → (a ≠ 0 → fsq M P k a ≠ 0) ∧ fsq M P k (fsq M P ((M - k) % M) a) = a := by
  have h' : ((M : Int), (P : Int)) ∈ fields14 := by simpa [validB] using h
  have t : invB M P = true := by simpa using List.all_eq_true.mp inv_all _ h'
  unfold invB at t
  have t1 := List.all_eq_true.mp t a (List.mem_range.mpr ha)
  rw [Bool.and_eq_true] at t1
  refine ⟨fun z => ?_, fun k hk => ?_⟩
  · have := t1.1
    simpa [z] using this
  · have t2 := List.all_eq_true.mp t1.2 k (List.mem_range.mpr hk)
    rw [Bool.and_eq_true] at t2
    refine ⟨fun z => ?_, by simpa using t2.2⟩
    have := t2.1
    simpa [z] using this
theorem i_inv_v {M P : Nat} (h : validB (M : Int) (P : Int) = true) {a : Nat} (ha : a < 2 ^ M) : impl_Field_inverse.d (M : Int) (P : Int) (a : Int) = some ((npow M P a (2 ^ M - 2) : Nat) : Int) := by
  have hv := valid_bits h
  have h5 : 2 ^ M ≤ 2 ^ 5 := Nat.pow_le_pow_right (by omega) hv.2.1
  have h1 : 2 ^ 1 ≤ 2 ^ M := Nat.pow_le_pow_right (by omega) hv.1
  have e : ((2 ^ M : Nat) : Int) = (2 : Int) ^ M := by simp
  have w : wrap64 ((2 : Int) ^ (M : Int).toNat - 2) = ((2 ^ M - 2 : Nat) : Int) := by
    rw [Int.toNat_natCast, ← e, wr (by omega) (by omega)]; omega
  rw [impl_Field_inverse.d_eq, i_count_v h, bind_some', w, i_power_v h (by omega) ha, bind_some']
/-- the last number of a list, 0 if there is none -/
def lst (l : List Nat) : Nat := l.getD (l.length - 1) 0
theorem lst_get {l : List Nat} (h : 0 < l.length) : lst l = l[l.length - 1] := by simp [lst, List.getD, show l.length - 1 < l.length by omega]
theorem trim_top {ln : List Nat} {B : Nat} (hl : ln.length ≤ 1073741824) (hb : ∀ y ∈ ln, y < B) : ∃ rn : List Nat, rn.length ≤ ln.length ∧ (∀ y ∈ rn, y < B) ∧ impl_trim.d (up ln) = some (up rn) ∧ spec_l03Trim.d (up ln) = some (up rn) ∧
    (0 < rn.length → lst rn ≠ 0) ∧ (0 < ln.length → lst ln ≠ 0 → rn = ln) ∧ (0 < ln.length → lst ln = 0 → rn.length < ln.length) := by
  induction hn : ln.length generalizing ln with
  | zero =>
    obtain ⟨rn, r1, r2, r3, r4⟩ := trim_up hl hb
    exact ⟨rn, by omega, r2, r3, r4, fun z => by omega, fun z => by omega, fun z => by omega⟩
  | succ n ih =>
    have hlen : (up ln).length = n + 1 := by rw [up_length, hn]
    have hw : wrap64 (((up ln).length : Int) - 1) = (n : Int) := by rw [hlen, wr (by omega) (by omega)]; omega
    have hr : rd (up ln) (n : Int) = ((lst ln : Nat) : Int) := by
      rw [up_get (show n < ln.length by omega), lst_get (by omega)]
      simp only [hn, Nat.add_sub_cancel]
    have own : spec_l00Own.f (up ln) = some (up ln) := by
      unfold spec_l00Own.f
      rw [bind_some', if_pos (by rw [hlen]; simp; omega), List.nil_append]
    by_cases c : lst ln = 0
    · obtain ⟨rn, r1, r2, r3, r4, r5, _, _⟩ := ih (ln := ln.take n) (by rw [List.length_take]; omega) (fun y hy => hb y (List.mem_of_mem_take hy)) (by rw [List.length_take]; omega)
      have tl : (ln.take n).length = n := by rw [List.length_take]; omega
      refine ⟨rn, by omega, r2, ?_, ?_, r5, fun _ z => absurd c z, fun _ _ => by omega⟩
      · rw [impl_trim.d_eq, impl_trim.l0d_eq, if_pos (by omega), hw, if_pos (by omega), if_pos (by omega), hr, if_pos (by rw [c]; rfl), if_pos (by omega), Int.toNat_natCast, up_take, ← impl_trim.d_eq, r3]
      · have : spec_l03Trim.l0d (up ln) (n : Int) = spec_l03Trim.l0d (up (ln.take n)) (n : Int) := by
          have key : ∀ m, m ≤ n → spec_l03Trim.l0d (up ln) (m : Int) = spec_l03Trim.l0d (up (ln.take n)) (m : Int) := by
            intro m
            induction m with
            | zero =>
              intro _
              have z0 : ∀ l : List Nat, spec_l03Trim.l0d (up l) ((0 : Nat) : Int) = some ([] : List Int) := by
                intro l
                rw [spec_l03Trim.l0d_eq, if_neg (by decide), if_pos (by decide), if_pos (by simp)]
                rfl
              rw [z0, z0]
            | succ m ihm =>
              intro hm
              have w : wrap64 (((m + 1 : Nat) : Int) - 1) = (m : Int) := by rw [wr (by omega) (by omega)]; omega
              have e : rd (up ln) (m : Int) = rd (up (ln.take n)) (m : Int) := by rw [up_get (show m < ln.length by omega), up_get (show m < (ln.take n).length by omega), List.getElem_take]
              have s1 : ∀ l : List Nat, m + 1 ≤ l.length → spec_l03Trim.l0d (up l) ((m + 1 : Nat) : Int) = if rd (up l) (m : Int) = 0 then spec_l03Trim.l0d (up l) (m : Int) else (spec_l00Own.f ((up l).take (m + 1))).bind fun t => some t := by
                intro l hl'
                have hul : (up l).length = l.length := up_length l
                rw [spec_l03Trim.l0d_eq, if_pos (by omega), w, if_pos (by omega), if_pos (by omega), if_pos (show (0 : Int) ≤ ((m + 1 : Nat) : Int) by omega), if_pos (show ((m + 1 : Nat) : Int) ≤ ((up l).length : Int) by omega), Int.toNat_natCast]
              rw [s1 ln (by omega), s1 (ln.take n) (by omega), e, ihm (by omega), up_take, up_take, List.take_take, Nat.min_eq_left (by omega)]
          exact key n (Nat.le_refl _)
        rw [spec_l03Trim.d_eq, hlen, spec_l03Trim.l0d_eq, if_pos (by omega), show wrap64 (((n + 1 : Nat) : Int) - 1) = (n : Int) by rw [wr (by omega) (by omega)]; omega, if_pos (by omega), if_pos (by omega), hr, if_pos (by rw [c]; rfl), this]
        rw [spec_l03Trim.d_eq, up_length, tl] at r4
        exact r4
    · have c' : ¬ ((lst ln : Nat) : Int) = 0 := fun z => c (by omega)
      refine ⟨ln, by omega, hb, ?_, ?_, fun _ => c, fun _ _ => rfl, fun _ z => absurd z c⟩
      · rw [impl_trim.d_eq, impl_trim.l0d_eq, if_pos (by omega), hw, if_pos (by omega), if_pos (by omega), hr, if_neg c']
      · rw [spec_l03Trim.d_eq, hlen, spec_l03Trim.l0d_eq, if_pos (by omega), show wrap64 (((n + 1 : Nat) : Int) - 1) = (n : Int) by rw [wr (by omega) (by omega)]; omega, if_pos (by omega), if_pos (by omega), hr, if_neg c', if_pos (by omega), if_pos (by omega), Int.toNat_natCast, ← hlen, List.take_length, own, bind_some']
/-- sums -/
theorem plus_both {M : Nat} (hM : M ≤ 60) {xn yn : List Nat} (hx : xn.length ≤ 1000000) (hy : yn.length ≤ 1000000) (bx : ∀ y ∈ xn, y < 2 ^ M) (by_ : ∀ y ∈ yn, y < 2 ^ M) :
    ∃ zn : List Nat, (zn.length ≤ xn.length ∨ zn.length ≤ yn.length) ∧ (∀ y ∈ zn, y < 2 ^ M) ∧ impl_plus.d (up xn) (up yn) = some (up zn) ∧ spec_l03Sum.d (up xn) (up yn) = some (up zn) ∧ (0 < zn.length → lst zn ≠ 0) ∧
      (xn.length = yn.length → 0 < xn.length → lst xn = lst yn → zn.length < xn.length) := by
  obtain ⟨N, hN⟩ : ∃ N, N = xn.length + (yn.length - xn.length) := ⟨_, rfl⟩
  have key : ∀ i, i ≤ yn.length → ∀ on : List Nat, on.length = N → (∀ y ∈ on, y < 2 ^ M) → (xn.length = yn.length → 0 < xn.length → lst xn = lst yn → lst on = if i = yn.length then 0 else lst xn) →
      ∃ zn : List Nat, zn.length ≤ N ∧ (∀ y ∈ zn, y < 2 ^ M) ∧ impl_plus.l0d (up on) (up yn) ((up yn).length : Int) (i : Int) = some (up zn) ∧ spec_l03Sum.l1d (up yn) (up on) (i : Int) = some (up zn) ∧ (0 < zn.length → lst zn ≠ 0) ∧
        (xn.length = yn.length → 0 < xn.length → lst xn = lst yn → zn.length < xn.length) := by
    apply down
    · intro on h1 h2 h3
      obtain ⟨rn, r1, r2, r3, r4, r5, _, r7⟩ := trim_top (by omega) h2
      refine ⟨rn, by omega, r2, by rw [impl_plus.l0d_eq, if_neg (by rw [up_length]; omega), r3, bind_some'], by rw [spec_l03Sum.l1d_eq, if_neg (by rw [up_length]; omega), r4, bind_some'], r5, fun e0 e1 e2 => ?_⟩
      have := h3 e0 e1 e2
      rw [if_pos rfl] at this
      have := r7 (by omega) this
      omega
    · intro i hi ih on h1 h2 h3
      have hio : i < on.length := by omega
      have m63 : M ≤ 63 := by omega
      have z1 : (i : Int) < ((up yn).length : Int) := by rw [up_length]; exact Int.ofNat_lt.mpr hi
      have z2 : (i : Int) < ((up on).length : Int) := by rw [up_length]; exact Int.ofNat_lt.mpr hio
      have w2 : wrap64 ((i : Int) + 1) = ((i + 1 : Nat) : Int) := wrS hi (by omega)
      have nx : xn.length = yn.length → 0 < xn.length → lst xn = lst yn → lst (on.set i (on[i] ^^^ yn[i])) = if i + 1 = yn.length then 0 else lst xn := by
        intro e0 e1 e2
        have t := h3 e0 e1 e2
        rw [if_neg (by omega)] at t
        have lo := lst_get (l := on) (by omega)
        have ly := lst_get (l := yn) (by omega)
        have ls := lst_get (l := on.set i (on[i] ^^^ yn[i])) (by rw [List.length_set]; omega)
        rw [ls]
        by_cases c : i + 1 = yn.length
        · rw [if_pos c]
          have e3 : on.length - 1 = i := by omega
          have e4 : yn.length - 1 = i := by omega
          simp only [List.length_set, e3] at lo ⊢
          simp only [e4] at ly
          rw [List.getElem_set_self, ← lo, ← ly, t, e2, Nat.xor_self]
        · rw [if_neg c]
          have e3 : i ≠ on.length - 1 := by omega
          simp only [List.length_set]
          rw [List.getElem_set_ne e3, ← lo, t]
      have b1 := h2 _ (List.getElem_mem hio)
      have b2 := by_ _ (List.getElem_mem hi)
      have x := bxor (small62 m63 b1) (small62 m63 b2)
      obtain ⟨rn, r1, r2, r3, r4, r5⟩ := ih (on.set i (on[i] ^^^ yn[i])) (by rw [List.length_set]; exact h1) (set_bound h2 (Nat.xor_lt_two_pow b1 b2)) nx
      refine ⟨rn, r1, r2, ?_, ?_, r5⟩
      · rw [impl_plus.l0d_eq, if_pos z1, if_pos (Int.natCast_nonneg i), if_pos z1, if_pos z2, up_get hio, up_get hi, x, Int.toNat_natCast, up_set, w2, r3]
      · rw [spec_l03Sum.l1d_eq, if_pos z1, if_pos (Int.natCast_nonneg i), if_pos z2, up_get hio, up_get hi, x, Int.toNat_natCast, up_set, w2, r4]
  have bz : ∀ y ∈ xn ++ List.replicate (yn.length - xn.length) 0, y < 2 ^ M := fun y hy => by
    rcases List.mem_append.mp hy with z | z
    · exact bx y z
    · exact zeros_bound (Nat.two_pow_pos M) y z
  obtain ⟨zn, r1, r2, r3, r4, r5, r6⟩ := key 0 (by omega) (xn ++ List.replicate (yn.length - xn.length) 0) (by simp; omega) bz (fun e0 e1 e2 => by
    rw [if_neg (by omega), e0, Nat.sub_self, List.replicate_zero, List.append_nil])
  have grow : ∀ k, ∀ on : List Nat, on.length + k = N → yn.length ≤ N → xn.length ≤ on.length → spec_l03Sum.l0d (up yn) (up on) = spec_l03Sum.l1d (up yn) (up (on ++ List.replicate (yn.length - on.length) 0)) 0 := by
    intro k
    induction k with
    | zero =>
      intro on h1 h2 h3
      rw [spec_l03Sum.l0d_eq, if_neg (by rw [up_length, up_length]; omega), show yn.length - on.length = 0 by omega, List.replicate_zero, List.append_nil]
    | succ k ihk =>
      intro on h1 h2 h3
      by_cases c : on.length < yn.length
      · rw [spec_l03Sum.l0d_eq, if_pos (by rw [up_length, up_length]; omega), if_pos (by rw [up_length]; omega)]
        have e : up on ++ [(0 : Int)] = up (on ++ [0]) := by rw [up_append]; rfl
        rw [e, ihk (on ++ [0]) (by simp; omega) h2 (by simp; omega)]
        congr 2
        rw [List.append_assoc]
        congr 1
        rw [show yn.length - on.length = (yn.length - (on ++ [0]).length) + 1 by simp; omega, List.replicate_succ]
        rfl
      · rw [spec_l03Sum.l0d_eq, if_neg (by rw [up_length, up_length]; omega), show yn.length - on.length = 0 by omega, List.replicate_zero, List.append_nil]
  refine ⟨zn, by omega, r2, ?_, ?_, r5, r6⟩
  · have mxe : mx ((up xn).length : Int) ((up yn).length : Int) = (N : Int) := by
      unfold mx
      rw [up_length, up_length]
      split <;> omega
    have e : up xn ++ (List.replicate N (0 : Int)).drop (up xn).length = up (xn ++ List.replicate (yn.length - xn.length) 0) := by
      rw [up_append, up_length, List.drop_replicate, up_zeros, show N - xn.length = yn.length - xn.length by omega]
    rw [impl_plus.d_eq, mxe, if_pos (by omega), if_pos (by omega), bind_some', Int.toNat_natCast, if_pos (by rw [up_length, List.length_replicate]; omega), e]
    exact r3
  · rw [spec_l03Sum.d_eq]
    unfold spec_l00Own.f
    rw [bind_some', if_pos (by rw [up_length]; simp; omega), bind_some', List.nil_append, grow (yn.length - xn.length) xn (by omega) (by omega) (Nat.le_refl _)]
    exact r4
end Go.Proofs.Ytkhjoomjjdgkjaa.P
end
section
namespace Go.Proofs.Ytkhjoomjjdgkjaa.P
open Go.RowKit Go.Proofs.YtkhjoomjjdgkjaaW.PrintWords Go.Proofs.YtkhjoomjjdgkjaaW.PrintLast Go.Proofs.YtkhjoomjjdgkjaaW.PrintMore
set_option linter.unusedVariables false
set_option linter.unusedSimpArgs false
end Go.Proofs.Ytkhjoomjjdgkjaa.P
end
section
namespace Go.Proofs.Ytkhjoomjjdgkjaa.P
open Go.RowKit Go.Proofs.YtkhjoomjjdgkjaaW.PrintWords Go.Proofs.YtkhjoomjjdgkjaaW.PrintLast Go.Proofs.YtkhjoomjjdgkjaaW.PrintMore
set_option linter.unusedVariables false
set_option linter.unusedSimpArgs false
noncomputable def spec_l03Compose.j0d (x1 : List Int) (x2 : List Int) (x17 : Bool) (x167000 : Int) (x167001 : Int) : Option (List Int) := lim (fun k => spec_l03Compose.j0 k x1 x2 x17 x167000 x167001)
theorem spec_l03Compose.j0lim (x1 : List Int) (x2 : List Int) (x17 : Bool) (x167000 : Int) (x167001 : Int) : IsLim (fun k => spec_l03Compose.j0 k x1 x2 x17 x167000 x167001) (spec_l03Compose.j0d x1 x2 x17 x167000 x167001) := lim_spec (fun k => (spec_l03Compose.mono_l k).1 x1 x2 x17 x167000 x167001)
noncomputable def spec_l03Compose.l0d (x1 : List Int) (x2 : List Int) (x7 : List Int) (x8 : Int) (x167000 : Int) (x167001 : Int) : Option (List Int) := lim (fun k => spec_l03Compose.l0 k x1 x2 x7 x8 x167000 x167001)
theorem spec_l03Compose.l0lim (x1 : List Int) (x2 : List Int) (x7 : List Int) (x8 : Int) (x167000 : Int) (x167001 : Int) : IsLim (fun k => spec_l03Compose.l0 k x1 x2 x7 x8 x167000 x167001) (spec_l03Compose.l0d x1 x2 x7 x8 x167000 x167001) := lim_spec (fun k => (spec_l03Compose.mono_l k).2.1 x1 x2 x7 x8 x167000 x167001)
noncomputable def spec_l03Compose.l1d (x1 : List Int) (x2 : List Int) (x7 : List Int) (x8 : Int) (x9 : Int) (x167000 : Int) (x167001 : Int) : Option (List Int) := lim (fun k => spec_l03Compose.l1 k x1 x2 x7 x8 x9 x167000 x167001)
theorem spec_l03Compose.l1lim (x1 : List Int) (x2 : List Int) (x7 : List Int) (x8 : Int) (x9 : Int) (x167000 : Int) (x167001 : Int) : IsLim (fun k => spec_l03Compose.l1 k x1 x2 x7 x8 x9 x167000 x167001) (spec_l03Compose.l1d x1 x2 x7 x8 x9 x167000 x167001) := lim_spec (fun k => (spec_l03Compose.mono_l k).2.2 x1 x2 x7 x8 x9 x167000 x167001)
theorem spec_l03Compose.j0d_eq (x1 : List Int) (x2 : List Int) (x17 : Bool) (x167000 : Int) (x167001 : Int) : spec_l03Compose.j0d x1 x2 x17 x167000 x167001 = if x17 = true then (some (([] : List Int))) else (if 0 ≤ (wrap64 ((wrap64 ((x1.length : Int) + (x2.length : Int))) - 1)) then (if (wrap64 ((wrap64 ((x1.length : Int) + (x2.length : Int))) - 1) : Int).toNat ≤ 35184372088832 then (spec_l03Compose.l0d x1 x2 (List.replicate (wrap64 ((wrap64 ((x1.length : Int) + (x2.length : Int))) - 1) : Int).toNat 0) 0 x167000 x167001) else (none)) else (none)) := by
  refine IsLim.unique (spec_l03Compose.j0lim _ _ _ _ _) ?_
  refine IsLim.shift (by rfl) ?_
  simp only [spec_l03Compose.j0]
  repeat' (first | exact IsLim.const _ | refine IsLim.ite ?_ ?_ | refine IsLim.bind ?_ (fun _ => ?_) | exact spec_l03Compose.l0lim ..)
theorem spec_l03Compose.l0d_eq (x1 : List Int) (x2 : List Int) (x7 : List Int) (x8 : Int) (x167000 : Int) (x167001 : Int) : spec_l03Compose.l0d x1 x2 x7 x8 x167000 x167001 = if x8 < (x1.length : Int) then (spec_l03Compose.l1d x1 x2 x7 x8 0 x167000 x167001) else ((spec_l03Trim.d x7).bind fun t173 => (some t173)) := by
  refine IsLim.unique (spec_l03Compose.l0lim _ _ _ _ _ _) ?_
  refine IsLim.shift (by rfl) ?_
  simp only [spec_l03Compose.l0]
  repeat' (first | exact IsLim.const _ | refine IsLim.ite ?_ ?_ | refine IsLim.bind ?_ (fun _ => ?_) | exact spec_l03Trim.lim .. | exact spec_l03Compose.l1lim ..)
theorem spec_l03Compose.l1d_eq (x1 : List Int) (x2 : List Int) (x7 : List Int) (x8 : Int) (x9 : Int) (x167000 : Int) (x167001 : Int) : spec_l03Compose.l1d x1 x2 x7 x8 x9 x167000 x167001 = if x9 < (x2.length : Int) then (if 0 ≤ (wrap64 (x8 + x9)) then (if (wrap64 (x8 + x9)) < (x7.length : Int) then (if 0 ≤ x8 then (if x8 < (x1.length : Int) then (if 0 ≤ x9 then ((spec_l01Square.d x167000 x167001 (rd x2 x9) x8).bind fun t179 => ((spec_l01Mul.d x167000 x167001 (rd x1 x8) t179).bind fun t180 => (spec_l03Compose.l1d x1 x2 (x7.set ((wrap64 (x8 + x9)) : Int).toNat (Go.bits .xor .i64 (rd x7 (wrap64 (x8 + x9))) t180)) x8 (wrap64 (x9 + 1)) x167000 x167001))) else (none)) else (none)) else (none)) else (none)) else (none)) else (spec_l03Compose.l0d x1 x2 x7 (wrap64 (x8 + 1)) x167000 x167001) := by
  refine IsLim.unique (spec_l03Compose.l1lim _ _ _ _ _ _ _) ?_
  refine IsLim.shift (by rfl) ?_
  simp only [spec_l03Compose.l1]
  repeat' (first | exact IsLim.const _ | refine IsLim.ite ?_ ?_ | refine IsLim.bind ?_ (fun _ => ?_) | exact spec_l01Square.lim .. | exact spec_l01Mul.lim .. | exact spec_l03Compose.l1lim .. | exact spec_l03Compose.l0lim ..)
noncomputable def spec_l03Compose.d (a0_0 : Int) (a0_1 : Int) (l1 : List Int) (l2 : List Int) : Option (List Int) := lim (fun k => spec_l03Compose.f k a0_0 a0_1 l1 l2)
theorem spec_l03Compose.lim (a0_0 : Int) (a0_1 : Int) (l1 : List Int) (l2 : List Int) : IsLim (fun k => spec_l03Compose.f k a0_0 a0_1 l1 l2) (spec_l03Compose.d a0_0 a0_1 l1 l2) := lim_spec (fun k => spec_l03Compose.mono a0_0 a0_1 l1 l2 k)
theorem spec_l03Compose.d_eq (a0_0 : Int) (a0_1 : Int) (l1 : List Int) (l2 : List Int) : spec_l03Compose.d a0_0 a0_1 l1 l2 = if (l1.length : Int) = 0 then (spec_l03Compose.j0d l1 l2 true a0_0 a0_1) else (spec_l03Compose.j0d l1 l2 ((l2.length : Int) == 0) a0_0 a0_1) := by
  refine IsLim.unique (spec_l03Compose.lim _ _ _ _) ?_
  unfold spec_l03Compose.f
  repeat' (first | exact IsLim.const _ | refine IsLim.ite ?_ ?_ | refine IsLim.bind ?_ (fun _ => ?_) | exact spec_l03Compose.j0lim ..)
end Go.Proofs.Ytkhjoomjjdgkjaa.P
end
section
namespace Go.Proofs.Ytkhjoomjjdgkjaa.P
open Go.RowKit Go.Proofs.YtkhjoomjjdgkjaaW.PrintWords Go.Proofs.YtkhjoomjjdgkjaaW.PrintLast Go.Proofs.YtkhjoomjjdgkjaaW.PrintMore
set_option linter.unusedVariables false
set_option linter.unusedSimpArgs false
end Go.Proofs.Ytkhjoomjjdgkjaa.P
end
section
namespace Go.Proofs.Ytkhjoomjjdgkjaa.P
open Go.RowKit Go.Proofs.YtkhjoomjjdgkjaaW.PrintWords Go.Proofs.YtkhjoomjjdgkjaaW.PrintLast Go.Proofs.YtkhjoomjjdgkjaaW.PrintMore
set_option linter.unusedVariables false
set_option linter.unusedSimpArgs false
end Go.Proofs.Ytkhjoomjjdgkjaa.P
end
section
namespace Go.Proofs.Ytkhjoomjjdgkjaa.P
open Go.RowKit Go.Proofs.YtkhjoomjjdgkjaaW.PrintWords Go.Proofs.YtkhjoomjjdgkjaaW.PrintLast Go.Proofs.YtkhjoomjjdgkjaaW.PrintMore
set_option linter.unusedVariables false
set_option linter.unusedSimpArgs false
theorem s_irr_small : ∀ i, i < 62 → spec_IsIrreducible.f 80 (2 + (i : Nat)) = some (irrB (2 + (i : Nat))) := by decide +kernel
theorem s_IsIrreducible_v (p : Int) : spec_IsIrreducible.d p = some (irrB p) := by
  by_cases h : p < 64
  · by_cases h2 : 2 ≤ p
    · have := of_range (P := fun p => spec_IsIrreducible.f 80 p = some (irrB p)) 62 2 s_irr_small p (by omega) (by omega)
      exact ((spec_IsIrreducible.lim p).2 _).mpr ⟨_, this⟩
    · by_cases h3 : p = 1
      · subst h3; exact ((spec_IsIrreducible.lim 1).2 _).mpr ⟨80, by decide +kernel⟩
      · rw [spec_IsIrreducible.d_eq, if_neg (by omega), irrB_big (.inl (by omega))]
  · rw [spec_IsIrreducible.d_eq, if_pos (by omega), if_neg h, irrB_big (.inr (by omega))]
theorem s_deg_irr {p : Int} (h : irrB p = true) : ∀ m, ((m, p) ∈ fields14) = (spec_l01Degree.d p = some m) := by
  have h := irrB_mem h
  have key : ∀ p ∈ irrs, ∃ m, spec_l01Degree.f 80 p = some m ∧ (m, p) ∈ fields14 ∧ ∀ m', (m', p) ∈ fields14 → m' = m := by
    have : ∀ p ∈ irrs, ∃ m ∈ [1, 2, 3, 4, 5], spec_l01Degree.f 80 p = some m ∧ (m, p) ∈ fields14 ∧ ∀ f ∈ fields14, f.2 = p → f.1 = m := by decide +kernel
    intro p hp
    obtain ⟨m, _, a, b, c⟩ := this p hp
    exact ⟨m, a, b, fun m' h' => c (m', p) h' rfl⟩
  intro m
  obtain ⟨m0, a, b, c⟩ := key p h
  have e : spec_l01Degree.d p = some m0 := ((spec_l01Degree.lim p).2 _).mpr ⟨_, a⟩
  rw [e]
  apply propext
  exact ⟨fun h => by rw [c m h], fun h => by cases h; exact b⟩
theorem s_l01Ok_v (m p : Int) : spec_l01Ok.d m p = some (validB m p) := by
  rw [spec_l01Ok.d_eq]
  unfold spec_l00In.f
  by_cases h1 : m ≥ 1
  · rw [if_pos h1, bind_some']
    by_cases h5 : m ≤ 5
    · rw [if_pos (by simpa using h5), s_IsIrreducible_v, bind_some']
      by_cases hi : irrB p = true
      · rw [if_pos hi]
        obtain ⟨m0, hm0⟩ := deg_some hi
        rw [s_deg_irr hi] at hm0
        rw [hm0, bind_some', validB_eq]
        have := s_deg_irr hi m
        rw [hm0] at this
        congr 1
        simp only [this, Option.some.injEq]
        by_cases e : m0 = m
        · simp [e]
        · simp [e]
      · rw [if_neg hi]
        congr 1
        have : ¬ validB m p = true := fun h => hi (valid_facts h).2.2
        exact (Bool.eq_false_iff.mpr this).symm
    · rw [if_neg (by simpa using h5)]
      have : ¬ validB m p = true := fun h => h5 (valid_facts h).2.1
      rw [Bool.eq_false_iff.mpr this]
  · rw [if_neg h1, bind_some', if_neg (by decide)]
    have : ¬ validB m p = true := fun h => h1 (valid_facts h).1
    rw [Bool.eq_false_iff.mpr this]
end Go.Proofs.Ytkhjoomjjdgkjaa.P
end
section
namespace Go.Proofs.Ytkhjoomjjdgkjaa.P
open Go.RowKit Go.Proofs.YtkhjoomjjdgkjaaW.PrintWords Go.Proofs.YtkhjoomjjdgkjaaW.PrintLast Go.Proofs.YtkhjoomjjdgkjaaW.PrintMore
set_option linter.unusedVariables false
set_option linter.unusedSimpArgs false
theorem s_l03Elements_v {m p : Int} (h : validB m p = true) (q : Int) {l : List Int} (hl : l.length ≤ 17592186044416) : spec_l03Elements.d m q l = some (l.all (elemB m)) := by
  have hb := pow_bound h
  rw [spec_l03Elements.d_eq]
  have := all_gen (F := fun i => spec_l03Elements.l0d l i m q) (n := l.length) (q := fun i => elemB m (rd l (i : Int)))
    (by show spec_l03Elements.l0d l (l.length : Int) m q = _
        rw [spec_l03Elements.l0d_eq, if_neg (by omega)])
    (by intro i hi
        show spec_l03Elements.l0d l (i : Int) m q = _
        have e : spec_l00In.f (rd l (i : Int)) 0 (2 ^ m.toNat - 1) = some (elemB m (rd l (i : Int))) := by
          unfold spec_l00In.f elemB
          by_cases c : rd l (i : Int) ≥ 0
          · rw [if_pos c]
            simp only [decide_eq_true (show 0 ≤ rd l (i : Int) from c), Bool.true_and]
            congr 1
            apply decide_eq_decide.mpr; omega
          · rw [if_neg c]
            simp only [decide_eq_false (show ¬ 0 ≤ rd l (i : Int) from c), Bool.false_and]
        rw [spec_l03Elements.l0d_eq, if_pos (by omega), if_pos (by omega), s_l01Size_v h, bind_some', wr (by omega) (by omega), e, bind_some', wrS hi hl])
  have this' : spec_l03Elements.l0d l 0 m q = some (decide (∀ i, i < l.length → elemB m (rd l (i : Int)) = true)) := this
  rw [this']
  congr 1
  exact all_get
def linB (m : Int) (l : List Int) : Bool := (decide (l.length ≤ 12) && l.all (elemB m)) && (decide (l.length = 0) || decide (rd l ((l.length : Int) - 1) ≠ 0))
theorem last_v {l : List Int} (hl : l.length ≤ 12) : (if (l.length : Int) = 0 then (some true) else (if 0 ≤ (wrap64 ((l.length : Int) - 1)) then (if (wrap64 ((l.length : Int) - 1)) < (l.length : Int) then (some ((rd l (wrap64 ((l.length : Int) - 1))) != 0)) else (none)) else (none))) = some (decide (l.length = 0) || decide (rd l ((l.length : Int) - 1) ≠ 0)) := by
  by_cases h : l.length = 0
  · rw [if_pos (by omega), decide_eq_true h]; rfl
  · rw [if_neg (by omega), wr (by omega) (by omega), if_pos (by omega), if_pos (by omega), decide_eq_false h, Bool.false_or]
    congr 1
    by_cases z : rd l ((l.length : Int) - 1) = 0
    · simp [z]
    · simp [z]
theorem s_l03Ok_v {m p : Int} (h : validB m p = true) (q : Int) {l : List Int} (hl : l.length ≤ 1048576) : spec_l03Ok.d m q l = some (linB m l) := by
  rw [spec_l03Ok.d_eq]
  unfold linB
  by_cases c : l.length ≤ 12
  · rw [if_pos (by omega), s_l03Elements_v h q (by omega), bind_some', decide_eq_true c, Bool.true_and]
    by_cases e : l.all (elemB m) = true
    · rw [if_pos e, last_v c, e, Bool.true_and]
    · rw [if_neg e, Bool.eq_false_iff.mpr e, Bool.false_and]
  · rw [if_neg (by omega), decide_eq_false c]; rfl
theorem i_isLinear_v {m p : Int} (h : validB m p = true) (q : Int) {l : List Int} (hl : l.length ≤ 1048576) : impl_Field_isLinear.d m q l = some (linB m l) := by
  rw [impl_Field_isLinear.d_eq]
  unfold linB
  by_cases c : l.length ≤ 12
  · rw [if_pos (by omega), i_has_v h q (by omega), bind_some', decide_eq_true c, Bool.true_and]
    by_cases e : l.all (elemB m) = true
    · rw [if_pos e, last_v c, e, Bool.true_and]
    · rw [if_neg e, Bool.eq_false_iff.mpr e, Bool.false_and]
  · rw [if_neg (by omega), decide_eq_false c]; rfl
theorem s_ValidLinear_v (m p : Int) {l : List Int} (hl : l.length ≤ 1048576) : spec_ValidLinear.d m p l = some (validB m p && linB m l) := by
  rw [spec_ValidLinear.d_eq, s_l01Ok_v, bind_some']
  by_cases h : validB m p = true
  · rw [if_pos h, s_l03Ok_v h p hl, bind_some', h, Bool.true_and]
  · rw [if_neg h, Bool.eq_false_iff.mpr h]; rfl
end Go.Proofs.Ytkhjoomjjdgkjaa.P
end
section
namespace Go.Proofs.Ytkhjoomjjdgkjaa.P
open Go.RowKit Go.Proofs.YtkhjoomjjdgkjaaW.PrintWords Go.Proofs.YtkhjoomjjdgkjaaW.PrintLast Go.Proofs.YtkhjoomjjdgkjaaW.PrintMore
set_option linter.unusedVariables false
set_option linter.unusedSimpArgs false
theorem i_linearCode2_v (m p : Int) {l k : List Int} (hl : l.length ≤ 1048576) (hk : k.length ≤ 1048576) : impl_Field_linearCode.d m p [l, k] = some (if (validB m p && (linB m l && linB m k)) = true then 0 else 1) := by
  rw [impl_Field_linearCode.d_eq, i_ValidField_v, bind_some']
  by_cases h : validB m p = true
  · rw [if_pos h, slices_ContainsFunc_int64_int64_AT_impl_Field_linearCode_1.d_eq, slices_IndexFunc_int64_int64_AT_impl_Field_linearCode_1.d_eq]
    have q1 : ∀ x, x = l → impl_Field_linearCode_1.d x m p = some (!(linB m l)) := fun x e => by rw [e, impl_Field_linearCode_1.d_eq, i_isLinear_v h p hl, bind_some']
    have q2 : ∀ x, x = k → impl_Field_linearCode_1.d x m p = some (!(linB m k)) := fun x e => by rw [e, impl_Field_linearCode_1.d_eq, i_isLinear_v h p hk, bind_some']
    have w1 : wrap64 ((0 : Int) + 1) = 1 := by rw [wr (by omega) (by omega)]; rfl
    have w2 : wrap64 ((1 : Int) + 1) = 2 := by rw [wr (by omega) (by omega)]; rfl
    rw [slices_IndexFunc_int64_int64_AT_impl_Field_linearCode_1.l0d_eq, if_pos (by simp), if_pos (by omega), if_pos (by simp), q1 _ (by rfl), bind_some', w1]
    by_cases c : linB m l = true
    · rw [if_neg (by simp [c]), slices_IndexFunc_int64_int64_AT_impl_Field_linearCode_1.l0d_eq, if_pos (by simp), if_pos (by omega), if_pos (by simp), q2 _ (by rfl), bind_some', w2]
      by_cases d : linB m k = true
      · rw [if_neg (by simp [d]), slices_IndexFunc_int64_int64_AT_impl_Field_linearCode_1.l0d_eq, if_neg (by simp), bind_some', bind_some', if_neg (by decide), h, c, d]; rfl
      · rw [if_pos (by simp [d]), bind_some', bind_some', if_pos (by decide), Bool.eq_false_iff.mpr d]; simp
    · rw [if_pos (by simp [c]), bind_some', bind_some', if_pos (by decide), Bool.eq_false_iff.mpr c]; simp
  · rw [if_neg h, Bool.eq_false_iff.mpr h]; rfl
end Go.Proofs.Ytkhjoomjjdgkjaa.P
end
section
namespace Go.Proofs.Ytkhjoomjjdgkjaa.P
open Go.RowKit Go.Proofs.YtkhjoomjjdgkjaaW.PrintWords Go.Proofs.YtkhjoomjjdgkjaaW.PrintLast Go.Proofs.YtkhjoomjjdgkjaaW.PrintMore
set_option linter.unusedVariables false
set_option linter.unusedSimpArgs false
theorem s_sq_loop {M P : Nat} (h : validB (M : Int) (P : Int) = true) : ∀ (k : Nat) {x : Nat}, k ≤ 1000 → x < 2 ^ M → spec_l01Square.l0d (x : Int) (k : Int) (M : Int) (P : Int) = some ((fsq M P k x : Nat) : Int)
  | 0, x, _, hx => by rw [spec_l01Square.l0d_eq, if_neg (by omega)]; rfl
  | k + 1, x, hk, hx => by
    rw [spec_l01Square.l0d_eq, if_pos (by omega), s_mul_v h hx hx, bind_some', show wrap64 (((k + 1 : Nat) : Int) - 1) = (k : Int) by rw [wr (by omega) (by omega)]; omega]
    exact s_sq_loop h k (by omega) (fmul_lt h hx x)
theorem s_sq_v {M P : Nat} (h : validB (M : Int) (P : Int) = true) (k : Nat) {x : Nat} (hx : x < 2 ^ M) : spec_l01Square.d (M : Int) (P : Int) (x : Int) (k : Int) = some ((fsq M P (k % M) x : Nat) : Int) := by
  have hv := valid_bits h
  have := Nat.mod_lt k (show M > 0 by omega)
  rw [spec_l01Square.d_eq, if_neg (by omega), tmod_nat]
  exact s_sq_loop h (k % M) (by omega) hx
end Go.Proofs.Ytkhjoomjjdgkjaa.P
end
section
namespace Go.Proofs.Ytkhjoomjjdgkjaa.P
open Go.RowKit Go.Proofs.YtkhjoomjjdgkjaaW.PrintWords Go.Proofs.YtkhjoomjjdgkjaaW.PrintLast Go.Proofs.YtkhjoomjjdgkjaaW.PrintMore
set_option linter.unusedVariables false
set_option linter.unusedSimpArgs false
theorem i_sq_loop {M P : Nat} (h : validB (M : Int) (P : Int) = true) {K : Nat} (hK : K ≤ 1000) : ∀ (k : Nat) {x : Nat}, k ≤ K → x < 2 ^ M → impl_Field_square.l0d (x : Int) (K : Int) ((K - k : Nat) : Int) (M : Int) (P : Int) = some ((fsq M P k x : Nat) : Int)
  | 0, x, _, hx => by rw [impl_Field_square.l0d_eq, if_neg (by omega)]; rfl
  | k + 1, x, hk, hx => by
    rw [impl_Field_square.l0d_eq, if_pos (by omega), i_mul_v h hx hx, bind_some', show wrap64 (((K - (k + 1) : Nat) : Int) + 1) = ((K - k : Nat) : Int) by rw [wr (by omega) (by omega)]; omega]
    exact i_sq_loop h hK k (by omega) (fmul_lt h hx x)
theorem i_sq_v {M P : Nat} (h : validB (M : Int) (P : Int) = true) (k : Nat) {x : Nat} (hx : x < 2 ^ M) : impl_Field_square.d (M : Int) (P : Int) (x : Int) (k : Int) = some ((fsq M P (k % M) x : Nat) : Int) := by
  have hv := valid_bits h
  have := Nat.mod_lt k (show M > 0 by omega)
  rw [impl_Field_square.d_eq, if_neg (by omega), tmod_nat]
  have e := i_sq_loop h (K := k % M) (by omega) (k % M) (x := x) (by omega) hx
  rwa [Nat.sub_self] at e
end Go.Proofs.Ytkhjoomjjdgkjaa.P
end
section
namespace Go.Proofs.Ytkhjoomjjdgkjaa.P
open Go.RowKit Go.Proofs.YtkhjoomjjdgkjaaW.PrintWords Go.Proofs.YtkhjoomjjdgkjaaW.PrintLast Go.Proofs.YtkhjoomjjdgkjaaW.PrintMore
set_option linter.unusedVariables false
set_option linter.unusedSimpArgs false
theorem lst_set {l : List Nat} {k v : Nat} (hk : k < l.length) : lst (l.set k v) = if k = l.length - 1 then v else lst l := by
  unfold lst
  rw [List.length_set]
  by_cases c : k = l.length - 1
  · rw [if_pos c, ← c]; simp [List.getD, hk]
  · rw [if_neg c]; simp [List.getD, c]
/-- what stands last while a product is made -/
structure Top (c : Prop) (on : List Nat) (V : Nat) : Prop where
  hit : c → lst on = V
  miss : ¬ c → lst on = 0
theorem top_step {M P : Nat} {pn qn on : List Nat} {i j V : Nat} (hi : i < pn.length) (hj : j < qn.length) (hij : i + j < on.length) (hL : on.length = pn.length + qn.length - 1)
    (hV : V = fmul M P (lst pn) (fsq M P ((pn.length - 1) % M) (lst qn))) (h0 : lst on = 0) :
    Top (i + 1 = pn.length ∧ j + 1 = qn.length) (on.set (i + j) (on[i + j] ^^^ fmul M P pn[i] (fsq M P (i % M) qn[j]))) V := by
  have n1 : 0 < on.length := Nat.lt_of_le_of_lt (Nat.zero_le _) hij
  have n2 : 0 < pn.length := Nat.lt_of_le_of_lt (Nat.zero_le _) hi
  have n3 : 0 < qn.length := Nat.lt_of_le_of_lt (Nat.zero_le _) hj
  refine ⟨fun c => ?_, fun c => ?_⟩
  · obtain ⟨c1, c2⟩ := c
    have e1 : i = pn.length - 1 := Nat.eq_sub_of_add_eq c1
    have e2 : j = qn.length - 1 := Nat.eq_sub_of_add_eq c2
    have e3 : i + j = on.length - 1 := by clear hV h0; omega
    have q0 : on[i + j] = 0 := by rw [← h0, lst_get n1]; simp only [e3]
    have qp : pn[i] = lst pn := by rw [lst_get n2]; simp only [e1]
    have qq : qn[j] = lst qn := by rw [lst_get n3]; simp only [e2]
    rw [lst_set hij, if_pos e3, q0, Nat.zero_xor, qp, qq, hV, e1]
  · have e3 : ¬ (i + j = on.length - 1) := by clear hV h0; omega
    rw [lst_set hij, if_neg e3, h0]
theorem comp_top {M P : Nat} (h : validB (M : Int) (P : Int) = true) {pn qn : List Nat} (hl : pn.length ≤ 1048576) (hl' : qn.length ≤ 1048576) (hp : ∀ y ∈ pn, y < 2 ^ M) (hq : ∀ y ∈ qn, y < 2 ^ M) (np : 0 < pn.length) (nq : 0 < qn.length) :
    ∃ rn : List Nat, rn.length ≤ pn.length + qn.length - 1 ∧ (∀ y ∈ rn, y < 2 ^ M) ∧ impl_Field_compose.d (M : Int) (P : Int) (up pn) (up qn) = some (up rn) ∧ spec_l03Compose.d (M : Int) (P : Int) (up pn) (up qn) = some (up rn) ∧
      (fmul M P (lst pn) (fsq M P ((pn.length - 1) % M) (lst qn)) ≠ 0 → rn.length = pn.length + qn.length - 1 ∧ lst rn = fmul M P (lst pn) (fsq M P ((pn.length - 1) % M) (lst qn))) := by
  have hv := valid_bits h
  obtain ⟨V, hV⟩ : ∃ V, V = fmul M P (lst pn) (fsq M P ((pn.length - 1) % M) (lst qn)) := ⟨_, rfl⟩
  rw [← hV]
  rw [impl_Field_compose.d_eq, spec_l03Compose.d_eq]
  have c1 : ¬ ((up pn).length : Int) = 0 := by rw [up_length]; omega
  rw [if_neg c1, if_neg c1]
  have c2 : ¬ ((up qn).length : Int) = 0 := by rw [up_length]; omega
  have e : (((up qn).length : Int) == 0) = false := beq_eq_false_iff_ne.mpr c2
  have hw : wrap64 (wrap64 (((up pn).length : Int) + ((up qn).length : Int)) - 1) = ((pn.length + qn.length - 1 : Nat) : Int) := by
    rw [up_length, up_length, wr (x := (pn.length : Int) + (qn.length : Int)) (by omega) (by omega), wr (by omega) (by omega)]; omega
  rw [e, impl_Field_compose.j0d_eq, spec_l03Compose.j0d_eq, if_neg Bool.false_ne_true, if_neg Bool.false_ne_true, hw, Int.toNat_natCast]
  obtain ⟨L, hL⟩ : ∃ L, L = pn.length + qn.length - 1 := ⟨_, rfl⟩
  rw [← hL, if_pos (show (0 : Int) ≤ (L : Int) by omega), if_pos (show (0 : Int) ≤ (L : Int) by omega), if_pos (show L ≤ 35184372088832 by omega), if_pos (show L ≤ 35184372088832 by omega), up_zeros]
  have key : ∀ i, i ≤ pn.length → ∀ on : List Nat, on.length = L → (∀ y ∈ on, y < 2 ^ M) → Top (i = pn.length) on V → ∃ rn : List Nat, rn.length ≤ L ∧ (∀ y ∈ rn, y < 2 ^ M) ∧
      impl_Field_compose.l0d (up qn) (up on) (up pn) ((up pn).length : Int) (i : Int) (M : Int) (P : Int) = some (up rn) ∧ spec_l03Compose.l0d (up pn) (up qn) (up on) (i : Int) (M : Int) (P : Int) = some (up rn) ∧ (V ≠ 0 → rn.length = L ∧ lst rn = V) := by
    apply down
    · intro on h1 h2 h3
      replace h3 := h3.hit rfl
      obtain ⟨rn, r1, r2, r3, r4, r5, r6, r7⟩ := trim_top (by omega) h2
      exact ⟨rn, by omega, r2, by rw [impl_Field_compose.l0d_eq, if_neg (by rw [up_length]; omega), r3, bind_some'], by rw [spec_l03Compose.l0d_eq, if_neg (by rw [up_length]; omega), r4, bind_some'], fun z => by
        have := r6 (by omega) (by rw [h3]; exact z)
        rw [this]; exact ⟨h1, h3⟩⟩
    · intro i hi ih on h1 h2 h3
      replace h3 := h3.miss (Nat.ne_of_lt hi)
      have a1 := hp _ (List.getElem_mem hi)
      have row : ∀ j, j ≤ qn.length → ∀ on : List Nat, on.length = L → (∀ y ∈ on, y < 2 ^ M) → Top (i + 1 = pn.length ∧ j = qn.length) on V → ∃ rn : List Nat, rn.length ≤ L ∧ (∀ y ∈ rn, y < 2 ^ M) ∧
          impl_Field_compose.l1d (up qn) (up on) (i : Int) ((pn[i] : Nat) : Int) (up pn) ((up pn).length : Int) (i : Int) (up qn) ((up qn).length : Int) (j : Int) (M : Int) (P : Int) = some (up rn) ∧ spec_l03Compose.l1d (up pn) (up qn) (up on) (i : Int) (j : Int) (M : Int) (P : Int) = some (up rn) ∧ (V ≠ 0 → rn.length = L ∧ lst rn = V) := by
        apply down
        · intro on h1 h2 h3
          obtain ⟨rn, r1, r2, r3, r4, r5⟩ := ih on h1 h2 ⟨fun z => h3.hit ⟨z, rfl⟩, fun z => h3.miss (fun y => z y.1)⟩
          exact ⟨rn, r1, r2, by rw [impl_Field_compose.l1d_eq, if_neg (by rw [up_length]; omega), wrS hi (by omega), r3], by rw [spec_l03Compose.l1d_eq, if_neg (by rw [up_length]; omega), wrS hi (by omega), r4], r5⟩
        · intro j hj ihj on h1 h2 h3
          replace h3 := h3.miss (fun z => Nat.ne_of_lt hj z.2)
          have hij : i + j < on.length := by omega
          have w : wrap64 ((i : Int) + (j : Int)) = ((i + j : Nat) : Int) := by rw [wr (by omega) (by omega)]; omega
          have w2 : wrap64 ((j : Int) + 1) = ((j + 1 : Nat) : Int) := wrS hj (by omega)
          have m63 : M ≤ 63 := by omega
          have z1 : (j : Int) < ((up qn).length : Int) := by rw [up_length]; exact Int.ofNat_lt.mpr hj
          have z2 : (i : Int) < ((up pn).length : Int) := by rw [up_length]; exact Int.ofNat_lt.mpr hi
          have z3 : ((i + j : Nat) : Int) < ((up on).length : Int) := by rw [up_length]; exact Int.ofNat_lt.mpr hij
          have b1 := h2 _ (List.getElem_mem hij)
          have b2 := hq _ (List.getElem_mem hj)
          have b3 := fsq_lt h (i % M) b2
          have b4 := fmul_lt h a1 (fsq M P (i % M) qn[j])
          have top := top_step (M := M) (P := P) hi hj hij (h1.trans hL) hV h3
          obtain ⟨rn, r1, r2, r3, r4, r5⟩ := ihj (on.set (i + j) (on[i + j] ^^^ fmul M P pn[i] (fsq M P (i % M) qn[j]))) (by rw [List.length_set]; exact h1) (set_bound h2 (Nat.xor_lt_two_pow b1 b4)) top
          have x := bxor (small62 m63 b1) (small62 m63 b4)
          refine ⟨rn, r1, r2, ?_, ?_, r5⟩
          · rw [impl_Field_compose.l1d_eq, if_pos z1, if_pos (Int.natCast_nonneg j), if_pos z1, w, if_pos (Int.natCast_nonneg (i + j)), if_pos z3, up_get hj, i_sq_v h i b2, bind_some', i_mul_v h a1 b3, bind_some', up_get hij, x, Int.toNat_natCast, up_set, w2, r3]
          · rw [spec_l03Compose.l1d_eq, if_pos z1, w, if_pos (Int.natCast_nonneg (i + j)), if_pos z3, if_pos (Int.natCast_nonneg i), if_pos z2, if_pos (Int.natCast_nonneg j), up_get hj, s_sq_v h i b2, bind_some', up_get hi, s_mul_v h a1 b3, bind_some', up_get hij, x, Int.toNat_natCast, up_set, w2, r4]
      obtain ⟨rn, r1, r2, r3, r4, r5⟩ := row 0 (by omega) on h1 h2 ⟨fun z => absurd z.2 (Nat.ne_of_lt nq), fun _ => h3⟩
      refine ⟨rn, r1, r2, ?_, ?_, r5⟩
      · rw [impl_Field_compose.l0d_eq, if_pos (by rw [up_length]; omega), if_pos (by omega), if_pos (by rw [up_length]; omega), up_get hi]; exact r3
      · rw [spec_l03Compose.l0d_eq, if_pos (by rw [up_length]; omega)]; exact r4
  have z : lst (List.replicate L 0) = 0 := by
    unfold lst
    simp [List.getD, List.getElem?_replicate]
    split <;> simp
  exact key 0 (by omega) (List.replicate L 0) (by simp) (zeros_bound (Nat.two_pow_pos M)) ⟨fun y => absurd y (Nat.ne_of_lt np), fun _ => z⟩
end Go.Proofs.Ytkhjoomjjdgkjaa.P
end
section
namespace Go.Proofs.Ytkhjoomjjdgkjaa.P
open Go.RowKit Go.Proofs.YtkhjoomjjdgkjaaW.PrintWords Go.Proofs.YtkhjoomjjdgkjaaW.PrintLast Go.Proofs.YtkhjoomjjdgkjaaW.PrintMore
set_option linter.unusedVariables false
set_option linter.unusedSimpArgs false
theorem rd_lst {l : List Nat} (h : 0 < l.length) : rd (up l) ((l.length - 1 : Nat) : Int) = ((lst l : Nat) : Int) := by
  rw [up_get (show l.length - 1 < l.length by omega), lst_get h]
theorem lst_lt {l : List Nat} {B : Nat} (h : 0 < l.length) (hb : ∀ y ∈ l, y < B) : lst l < B := by
  rw [lst_get h]; exact hb _ (List.getElem_mem _)
theorem k13 {k : Nat} (h : k ≤ 1000) : k + 1 ≤ 35184372088832 := Nat.le_trans (Nat.succ_le_succ h) (Nat.le_of_ble_eq_true rfl)
/-- c times the k-th power -/
def term (c k : Nat) : List Nat := (List.replicate (k + 1) 0).set k c
theorem term_len (c k : Nat) : (term c k).length = k + 1 := by simp [term]
theorem term_lst (c k : Nat) : lst (term c k) = c := by
  unfold term
  rw [lst_set (by simp), if_pos (by simp)]
theorem term_lt {c k B : Nat} (hc : c < B) : ∀ y ∈ term c k, y < B := set_bound (zeros_bound (Nat.lt_of_le_of_lt (Nat.zero_le _) hc)) hc
theorem i_term (c k : Nat) : (List.replicate (k + 1) (0 : Int)).set k (c : Int) = up (term c k) := by
  rw [up_zeros, up_set]; rfl
/-- one round: what is taken off has the same last number -/
theorem cut_v {M P : Nat} (h : validB (M : Int) (P : Int) = true) {rn pn qn : List Nat} (lr : rn.length ≤ 12) (hp : pn.length ≤ 12) (hq : qn.length ≤ 12) (br : ∀ y ∈ rn, y < 2 ^ M) (bp : ∀ y ∈ pn, y < 2 ^ M) (bq : ∀ y ∈ qn, y < 2 ^ M)
    (np : 0 < pn.length) (nq : 0 < qn.length) (hl : pn.length + qn.length = rn.length + 1) (nr : lst rn ≠ 0) (he : fmul M P (lst pn) (fsq M P ((pn.length - 1) % M) (lst qn)) = lst rn) :
    ∃ cn zn : List Nat, impl_Field_compose.d (M : Int) (P : Int) (up pn) (up qn) = some (up cn) ∧ spec_l03Compose.d (M : Int) (P : Int) (up pn) (up qn) = some (up cn) ∧ impl_plus.d (up rn) (up cn) = some (up zn) ∧ spec_l03Sum.d (up rn) (up cn) = some (up zn) ∧
      zn.length < rn.length ∧ (∀ y ∈ zn, y < 2 ^ M) ∧ (0 < zn.length → lst zn ≠ 0) := by
  have hv := valid_bits h
  obtain ⟨cn, c1, c2, c3, c4, c5⟩ := comp_top h (pn := pn) (qn := qn) (by omega) (by omega) bp bq np nq
  rw [he] at c5
  obtain ⟨c6, c7⟩ := c5 nr
  obtain ⟨zn, z1, z2, z3, z4, z5, z6⟩ := plus_both (M := M) (by omega) (xn := rn) (yn := cn) (by omega) (by omega) br c2
  exact ⟨cn, zn, c3, c4, z3, z4, z6 (by omega) (by omega) c7.symm, z2, z5⟩
end Go.Proofs.Ytkhjoomjjdgkjaa.P
end
section
namespace Go.Proofs.Ytkhjoomjjdgkjaa.P
open Go.RowKit Go.Proofs.YtkhjoomjjdgkjaaW.PrintWords Go.Proofs.YtkhjoomjjdgkjaaW.PrintLast Go.Proofs.YtkhjoomjjdgkjaaW.PrintMore
set_option linter.unusedVariables false
set_option linter.unusedSimpArgs false
theorem i_root_v {M P : Nat} (h : validB (M : Int) (P : Int) = true) (k : Nat) {x : Nat} (hx : x < 2 ^ M) : impl_Field_root.d (M : Int) (P : Int) (x : Int) (k : Int) = some ((fsq M P ((M - k % M) % M) x : Nat) : Int) := by
  have hv := valid_bits h
  have hm := Nat.mod_lt k (show 0 < M by omega)
  have w : wrap64 ((M : Int) - ((k % M : Nat) : Int)) = ((M - k % M : Nat) : Int) := by rw [wr (by omega) (by omega)]; omega
  rw [impl_Field_root.d_eq, if_neg (by omega), tmod_nat, w, tmod_nat, i_sq_v h _ hx, bind_some', Nat.mod_mod]
end Go.Proofs.Ytkhjoomjjdgkjaa.P
end
section
namespace Go.Proofs.Ytkhjoomjjdgkjaa.P
open Go.RowKit Go.Proofs.YtkhjoomjjdgkjaaW.PrintWords Go.Proofs.YtkhjoomjjdgkjaaW.PrintLast Go.Proofs.YtkhjoomjjdgkjaaW.PrintMore
set_option linter.unusedVariables false
set_option linter.unusedSimpArgs false
theorem cl_up {l : List Nat} (h : l.length ≤ 12) : slices_Clone_int64_int64.f (up l) = some (up l) := by
  unfold slices_Clone_int64_int64.f; rw [if_pos (by rw [up_length]; omega)]
theorem len1 {l : List Nat} (h : l.length ≤ 12) (n : 0 < l.length) : wrap64 ((l.length : Int) - 1) = ((l.length - 1 : Nat) : Int) := by rw [wr (by omega) (by omega)]; omega
end Go.Proofs.Ytkhjoomjjdgkjaa.P
end
section
namespace Go.Proofs.Ytkhjoomjjdgkjaa.P
open Go.RowKit Go.Proofs.YtkhjoomjjdgkjaaW.PrintWords Go.Proofs.YtkhjoomjjdgkjaaW.PrintLast Go.Proofs.YtkhjoomjjdgkjaaW.PrintMore
set_option linter.unusedVariables false
set_option linter.unusedSimpArgs false
/-- the number at a place, 0 behind the end -/
def cf (l : List Nat) (k : Nat) : Nat := l.getD k 0
theorem cf_get {l : List Nat} {k : Nat} (h : k < l.length) : cf l k = l[k] := by simp [cf, List.getD, h]
theorem cf_out {l : List Nat} {k : Nat} (h : l.length ≤ k) : cf l k = 0 := by simp [cf, List.getD, List.getElem?_eq_none h]
theorem cf_lt {l : List Nat} {B : Nat} (hB : 0 < B) (hb : ∀ y ∈ l, y < B) (k : Nat) : cf l k < B := by
  by_cases h : k < l.length
  · rw [cf_get h]; exact hb _ (List.getElem_mem h)
  · rw [cf_out (by omega)]; exact hB
theorem cf_lst (l : List Nat) : cf l (l.length - 1) = lst l := rfl
theorem cf_set {l : List Nat} {i v : Nat} (h : i < l.length) (k : Nat) : cf (l.set i v) k = if k = i then v else cf l k := by
  by_cases c : k = i
  · subst c
    rw [if_pos rfl, cf_get (by rw [List.length_set]; exact h), List.getElem_set_self]
  · rw [if_neg c]
    by_cases d : k < l.length
    · rw [cf_get (by rw [List.length_set]; exact d), cf_get d, List.getElem_set_ne (by omega)]
    · rw [cf_out (by rw [List.length_set]; omega), cf_out (by omega)]
theorem cf_zeros (n k : Nat) : cf (List.replicate n 0) k = 0 := by
  by_cases d : k < n
  · rw [cf_get (by simp; exact d), List.getElem_replicate]
  · rw [cf_out (by simp; omega)]
theorem cf_pad (l : List Nat) (n k : Nat) : cf (l ++ List.replicate n 0) k = cf l k := by
  by_cases d : k < l.length
  · rw [cf_get (by simp; omega), cf_get d, List.getElem_append_left d]
  · rw [cf_out (l := l) (by omega)]
    by_cases e : k < (l ++ List.replicate n 0).length
    · rw [cf_get e, List.getElem_append_right (by omega), List.getElem_replicate]
    · rw [cf_out (by omega)]
/-- lists that end in no 0 are told by what stands at each place -/
theorem cf_ext {a b : List Nat} (ha : 0 < a.length → lst a ≠ 0) (hb : 0 < b.length → lst b ≠ 0) (h : ∀ k, cf a k = cf b k) : a = b := by
  have le : ∀ {x y : List Nat}, (0 < x.length → lst x ≠ 0) → (∀ k, cf x k = cf y k) → x.length ≤ y.length := by
    intro x y hx hh
    by_cases c : x.length ≤ y.length
    · exact c
    · exfalso
      have := hx (by omega)
      rw [← cf_lst, hh, cf_out (by omega)] at this
      exact this rfl
  have el : a.length = b.length := Nat.le_antisymm (le ha h) (le hb fun k => (h k).symm)
  apply List.ext_getElem el
  intro i h1 h2
  have := h i
  rwa [cf_get h1, cf_get h2] at this
theorem trim_cf {ln : List Nat} (hl : ln.length ≤ 1073741824) : ∃ rn : List Nat, impl_trim.d (up ln) = some (up rn) ∧ (∀ k, cf rn k = cf ln k) ∧ (0 < rn.length → lst rn ≠ 0) := by
  induction hn : ln.length generalizing ln with
  | zero =>
    refine ⟨ln, ?_, fun _ => rfl, fun z => by omega⟩
    rw [impl_trim.d_eq, impl_trim.l0d_eq, if_neg (by rw [up_length]; omega)]
  | succ n ih =>
    have hlen : (up ln).length = n + 1 := by rw [up_length, hn]
    have hw : wrap64 (((up ln).length : Int) - 1) = (n : Int) := by rw [hlen, wr (by omega) (by omega)]; omega
    have hr : rd (up ln) (n : Int) = ((lst ln : Nat) : Int) := by
      rw [up_get (show n < ln.length by omega), lst_get (by omega)]
      simp only [hn, Nat.add_sub_cancel]
    by_cases c : lst ln = 0
    · have tl : (ln.take n).length = n := by rw [List.length_take]; omega
      obtain ⟨rn, r1, r2, r9⟩ := ih (ln := ln.take n) (by omega) tl
      refine ⟨rn, ?_, fun k => ?_, r9⟩
      · rw [impl_trim.d_eq, impl_trim.l0d_eq, if_pos (by omega), hw, if_pos (by omega), if_pos (by omega), hr, if_pos (by rw [c]; rfl), if_pos (by omega), Int.toNat_natCast, up_take, ← impl_trim.d_eq, r1]
      · rw [r2]
        by_cases d : k < n
        · rw [cf_get (by omega), cf_get (show k < ln.length by omega), List.getElem_take]
        · rw [cf_out (by omega)]
          by_cases e : k = n
          · have e2 : k = ln.length - 1 := by omega
            rw [e2, cf_lst, c]
          · rw [cf_out (by omega)]
    · have c' : ¬ ((lst ln : Nat) : Int) = 0 := fun z => c (by omega)
      refine ⟨ln, ?_, fun _ => rfl, fun _ => c⟩
      rw [impl_trim.d_eq, impl_trim.l0d_eq, if_pos (by omega), hw, if_pos (by omega), if_pos (by omega), hr, if_neg c']
theorem plus_cf {M : Nat} (hM : M ≤ 60) {xn yn : List Nat} (hx : xn.length ≤ 1000000) (hy : yn.length ≤ 1000000) (bx : ∀ y ∈ xn, y < 2 ^ M) (by_ : ∀ y ∈ yn, y < 2 ^ M) :
    ∃ zn : List Nat, impl_plus.d (up xn) (up yn) = some (up zn) ∧ (∀ k, cf zn k = cf xn k ^^^ cf yn k) ∧ (0 < zn.length → lst zn ≠ 0) := by
  obtain ⟨N, hN⟩ : ∃ N, N = xn.length + (yn.length - xn.length) := ⟨_, rfl⟩
  have key : ∀ i, i ≤ yn.length → ∀ on : List Nat, on.length = N → (∀ y ∈ on, y < 2 ^ M) → (∀ k, cf on k = cf xn k ^^^ (if k < i then cf yn k else 0)) →
      ∃ zn : List Nat, impl_plus.l0d (up on) (up yn) ((up yn).length : Int) (i : Int) = some (up zn) ∧ (∀ k, cf zn k = cf xn k ^^^ cf yn k) ∧ (0 < zn.length → lst zn ≠ 0) := by
    apply down
    · intro on h1 h2 h3
      obtain ⟨rn, r3, r5, r9⟩ := trim_cf (ln := on) (by omega)
      refine ⟨rn, by rw [impl_plus.l0d_eq, if_neg (by rw [up_length]; omega), r3, bind_some'], fun k => ?_, r9⟩
      rw [r5, h3]
      by_cases c : k < yn.length
      · rw [if_pos c]
      · rw [if_neg c, cf_out (l := yn) (by omega)]
    · intro i hi ih on h1 h2 h3
      have hio : i < on.length := by omega
      have m63 : M ≤ 63 := by omega
      have z1 : (i : Int) < ((up yn).length : Int) := by rw [up_length]; exact Int.ofNat_lt.mpr hi
      have z2 : (i : Int) < ((up on).length : Int) := by rw [up_length]; exact Int.ofNat_lt.mpr hio
      have b1 := h2 _ (List.getElem_mem hio)
      have b2 := by_ _ (List.getElem_mem hi)
      have x := bxor (small62 m63 b1) (small62 m63 b2)
      obtain ⟨rn, r3, r5⟩ := ih (on.set i (on[i] ^^^ yn[i])) (by rw [List.length_set]; exact h1) (set_bound h2 (Nat.xor_lt_two_pow b1 b2)) (fun k => by
        rw [cf_set hio]
        by_cases c : k = i
        · subst c
          have := h3 k
          rw [if_neg (Nat.lt_irrefl k), Nat.xor_zero] at this
          rw [if_pos rfl, if_pos (Nat.lt_succ_self k), ← cf_get hio, ← cf_get hi, this]
        · rw [if_neg c, h3]
          by_cases d : k < i
          · rw [if_pos d, if_pos (by omega)]
          · rw [if_neg d, if_neg (by omega)])
      refine ⟨rn, ?_, r5⟩
      rw [impl_plus.l0d_eq, if_pos z1, if_pos (Int.natCast_nonneg i), if_pos z1, if_pos z2, up_get hio, up_get hi, x, Int.toNat_natCast, up_set, wrS hi (by omega), r3]
  have bz : ∀ y ∈ xn ++ List.replicate (yn.length - xn.length) 0, y < 2 ^ M := fun y hy => by
    rcases List.mem_append.mp hy with z | z
    · exact bx y z
    · exact zeros_bound (Nat.two_pow_pos M) y z
  obtain ⟨zn, r1, r2, r9⟩ := key 0 (by omega) (xn ++ List.replicate (yn.length - xn.length) 0) (by simp; omega) bz (fun k => by rw [cf_pad, if_neg (by omega), Nat.xor_zero])
  refine ⟨zn, ?_, r2, r9⟩
  have mxe : mx ((up xn).length : Int) ((up yn).length : Int) = (N : Int) := by
    unfold mx
    rw [up_length, up_length]
    split <;> omega
  have e : up xn ++ (List.replicate N (0 : Int)).drop (up xn).length = up (xn ++ List.replicate (yn.length - xn.length) 0) := by
    rw [up_append, up_length, List.drop_replicate, up_zeros, show N - xn.length = yn.length - xn.length by omega]
  rw [impl_plus.d_eq, mxe, if_pos (by omega), if_pos (by omega), bind_some', Int.toNat_natCast, if_pos (by rw [up_length, List.length_replicate]; omega), e]
  exact r1
theorem fsq_z {M P : Nat} (h : validB (M : Int) (P : Int) = true) (k : Nat) : fsq M P k 0 = 0 := by
  have := fsq_xor h k (x := 0) (y := 0) (Nat.two_pow_pos M) (Nat.two_pow_pos M)
  rwa [Nat.xor_self, Nat.xor_self] at this
/-- one term of a composition at a place -/
def tm (M P : Nat) (p q : List Nat) (i k : Nat) : Nat := if i ≤ k then fmul M P (cf p i) (fsq M P (i % M) (cf q (k - i))) else 0
/-- n terms from the i-th on -/
def rs (M P : Nat) (p q : List Nat) (k : Nat) : Nat → Nat → Nat
  | 0, _ => 0
  | n + 1, i => tm M P p q i k ^^^ rs M P p q k n (i + 1)
theorem tm_out {M P : Nat} (h : validB (M : Int) (P : Int) = true) {p q : List Nat} {i k : Nat} (hp : ∀ y ∈ p, y < 2 ^ M) (hk : i + q.length ≤ k) : tm M P p q i k = 0 := by
  unfold tm
  rw [if_pos (by omega), cf_out (l := q) (by omega), fsq_z h, fmul_0r]
theorem xor4c (a b c d : Nat) : (a ^^^ b) ^^^ (c ^^^ d) = (a ^^^ c) ^^^ (b ^^^ d) := by
  rw [Nat.xor_assoc, ← Nat.xor_assoc b c d, Nat.xor_comm b c, Nat.xor_assoc c b d, ← Nat.xor_assoc]
theorem comp_cf {M P : Nat} (h : validB (M : Int) (P : Int) = true) {pn qn : List Nat} (hl : pn.length ≤ 1048576) (hl' : qn.length ≤ 1048576) (hp : ∀ y ∈ pn, y < 2 ^ M) (hq : ∀ y ∈ qn, y < 2 ^ M) :
    ∃ rn : List Nat, impl_Field_compose.d (M : Int) (P : Int) (up pn) (up qn) = some (up rn) ∧ (∀ k, cf rn k = rs M P pn qn k pn.length 0) ∧ (0 < rn.length → lst rn ≠ 0) := by
  have hv := valid_bits h
  rw [impl_Field_compose.d_eq]
  by_cases c1 : ((up pn).length : Int) = 0
  · rw [if_pos c1]
    rw [up_length] at c1
    refine ⟨[], by rw [impl_Field_compose.j0d_eq, if_pos rfl]; rfl, fun k => ?_, fun z => absurd z (by simp)⟩
    rw [show pn.length = 0 by omega]; rfl
  · rw [if_neg c1]
    by_cases c2 : (up qn).length = 0
    · have e : (((up qn).length : Int) == 0) = true := by rw [c2]; rfl
      rw [e]
      rw [up_length] at c2
      refine ⟨[], by rw [impl_Field_compose.j0d_eq, if_pos rfl]; rfl, fun k => ?_, fun z => absurd z (by simp)⟩
      have z : ∀ n i, rs M P pn qn k n i = 0 := by
        intro n
        induction n with
        | zero => intro i; rfl
        | succ n ih =>
          intro i
          show tm M P pn qn i k ^^^ rs M P pn qn k n (i + 1) = 0
          rw [ih, Nat.xor_zero]
          by_cases d : i ≤ k
          · exact tm_out h hp (by omega)
          · unfold tm; rw [if_neg d]
      rw [z]; rfl
    · have e : (((up qn).length : Int) == 0) = false := beq_eq_false_iff_ne.mpr (by omega)
      rw [up_length] at c1 c2
      have hw : wrap64 (wrap64 (((up pn).length : Int) + ((up qn).length : Int)) - 1) = ((pn.length + qn.length - 1 : Nat) : Int) := by
        rw [up_length, up_length, wr (x := (pn.length : Int) + (qn.length : Int)) (by omega) (by omega), wr (by omega) (by omega)]; omega
      rw [e, impl_Field_compose.j0d_eq, if_neg Bool.false_ne_true, hw, Int.toNat_natCast]
      clear hw
      obtain ⟨L, hL⟩ : ∃ L, L = pn.length + qn.length - 1 := ⟨_, rfl⟩
      rw [← hL, if_pos (show (0 : Int) ≤ (L : Int) by omega), if_pos (show L ≤ 35184372088832 by omega), up_zeros]
      have key : ∀ i, i ≤ pn.length → ∀ on : List Nat, on.length = L → (∀ y ∈ on, y < 2 ^ M) → ∃ rn : List Nat,
          impl_Field_compose.l0d (up qn) (up on) (up pn) ((up pn).length : Int) (i : Int) (M : Int) (P : Int) = some (up rn) ∧ (∀ k, cf rn k = cf on k ^^^ rs M P pn qn k (pn.length - i) i) ∧ (0 < rn.length → lst rn ≠ 0) := by
        apply down
        · intro on h1 h2
          obtain ⟨rn, r3, r4, r5⟩ := trim_cf (ln := on) (by omega)
          exact ⟨rn, by rw [impl_Field_compose.l0d_eq, if_neg (by rw [up_length]; omega), r3, bind_some'], fun k => by rw [r4, Nat.sub_self]; exact (Nat.xor_zero _).symm, r5⟩
        · intro i hi ih on h1 h2
          have a1 := hp _ (List.getElem_mem hi)
          have row : ∀ j, j ≤ qn.length → ∀ on : List Nat, on.length = L → (∀ y ∈ on, y < 2 ^ M) → ∃ rn : List Nat,
              impl_Field_compose.l1d (up qn) (up on) (i : Int) ((pn[i] : Nat) : Int) (up pn) ((up pn).length : Int) (i : Int) (up qn) ((up qn).length : Int) (j : Int) (M : Int) (P : Int) = some (up rn) ∧ (∀ k, cf rn k = cf on k ^^^ ((if i + j ≤ k then tm M P pn qn i k else 0) ^^^ rs M P pn qn k (pn.length - (i + 1)) (i + 1))) ∧ (0 < rn.length → lst rn ≠ 0) := by
            apply down
            · intro on h1 h2
              obtain ⟨rn, r3, r4, r5⟩ := ih on h1 h2
              refine ⟨rn, by rw [impl_Field_compose.l1d_eq, if_neg (by rw [up_length]; omega), wrS hi (by omega), r3], fun k => ?_, r5⟩
              rw [r4]
              have : (if i + qn.length ≤ k then tm M P pn qn i k else 0) = 0 := by
                by_cases d : i + qn.length ≤ k
                · rw [if_pos d]; exact tm_out h hp d
                · rw [if_neg d]
              rw [this, Nat.zero_xor]
            · intro j hj ihj on h1 h2
              have hij : i + j < on.length := by omega
              have w : wrap64 ((i : Int) + (j : Int)) = ((i + j : Nat) : Int) := by rw [wr (by omega) (by omega)]; omega
              have m63 : M ≤ 63 := by clear w; omega
              have z1 : (j : Int) < ((up qn).length : Int) := by rw [up_length]; exact Int.ofNat_lt.mpr hj
              have z3 : ((i + j : Nat) : Int) < ((up on).length : Int) := by rw [up_length]; exact Int.ofNat_lt.mpr hij
              have b1 := h2 _ (List.getElem_mem hij)
              have b2 := hq _ (List.getElem_mem hj)
              have b3 := fsq_lt h (i % M) b2
              have b4 := fmul_lt h a1 (fsq M P (i % M) qn[j])
              have te : fmul M P pn[i] (fsq M P (i % M) qn[j]) = tm M P pn qn i (i + j) := by
                unfold tm
                rw [if_pos (Nat.le_add_right i j), Nat.add_sub_cancel_left, cf_get hi, cf_get hj]
              obtain ⟨rn, r3, r4, r5⟩ := ihj (on.set (i + j) (on[i + j] ^^^ fmul M P pn[i] (fsq M P (i % M) qn[j]))) (by rw [List.length_set]; exact h1) (set_bound h2 (Nat.xor_lt_two_pow b1 b4))
              have x := bxor (small62 m63 b1) (small62 m63 b4)
              have w2 : wrap64 ((j : Int) + 1) = ((j + 1 : Nat) : Int) := wrS hj (Nat.le_trans hl' (by decide))
              refine ⟨rn, ?_, fun k => ?_, r5⟩
              · rw [impl_Field_compose.l1d_eq, if_pos z1, if_pos (Int.natCast_nonneg j), if_pos z1, w, if_pos (Int.natCast_nonneg (i + j)), if_pos z3, up_get hj, i_sq_v h i b2, bind_some', i_mul_v h a1 b3, bind_some', up_get hij, x, Int.toNat_natCast, up_set, w2, r3]
              · clear w w2
                rw [r4, cf_set hij]
                by_cases d : k = i + j
                · subst d
                  rw [if_pos rfl, if_neg (by omega), if_pos (Nat.le_refl _), Nat.zero_xor, te, ← cf_get hij, Nat.xor_assoc]
                · rw [if_neg d]
                  by_cases e : i + j ≤ k
                  · rw [if_pos e, if_pos (by omega)]
                  · rw [if_neg e, if_neg (by omega)]
          obtain ⟨rn, r3, r4, r5⟩ := row 0 (by omega) on h1 h2
          refine ⟨rn, ?_, fun k => ?_, r5⟩
          · rw [impl_Field_compose.l0d_eq, if_pos (by rw [up_length]; omega), if_pos (by omega), if_pos (by rw [up_length]; omega), up_get hi]; exact r3
          · rw [r4, show pn.length - i = (pn.length - (i + 1)) + 1 by omega]
            congr 1
            show (if i + 0 ≤ k then tm M P pn qn i k else 0) ^^^ _ = tm M P pn qn i k ^^^ _
            congr 1
            by_cases d : i ≤ k
            · rw [if_pos (by omega)]
            · rw [if_neg (by omega)]; unfold tm; rw [if_neg d]
      obtain ⟨rn, r3, r4, r5⟩ := key 0 (by omega) (List.replicate L 0) (by simp) (zeros_bound (Nat.two_pow_pos M))
      exact ⟨rn, r3, fun k => by rw [r4, cf_zeros, Nat.zero_xor, Nat.sub_zero], r5⟩
/-- what a composition has at a place -/
def CM (M P : Nat) (p q : List Nat) (k : Nat) : Nat := rs M P p q k 24 0
theorem rs_0 {M P : Nat} {p q : List Nat} {k : Nat} : ∀ n i, p.length ≤ i → rs M P p q k n i = 0
  | 0, _, _ => rfl
  | n + 1, i, hi => by
    show tm M P p q i k ^^^ rs M P p q k n (i + 1) = 0
    rw [rs_0 n (i + 1) (by omega), Nat.xor_zero]
    unfold tm
    by_cases d : i ≤ k
    · rw [if_pos d, cf_out hi, fmul_0l]
    · rw [if_neg d]
theorem rs_long {M P : Nat} {p q : List Nat} {k : Nat} (d : Nat) : ∀ n i, p.length ≤ i + n → rs M P p q k (n + d) i = rs M P p q k n i
  | 0, i, hi => by rw [Nat.zero_add, rs_0 d i (by omega)]; rfl
  | n + 1, i, hi => by
    rw [show n + 1 + d = (n + d) + 1 by omega]
    show tm M P p q i k ^^^ rs M P p q k (n + d) (i + 1) = tm M P p q i k ^^^ rs M P p q k n (i + 1)
    rw [rs_long d n (i + 1) (by omega)]
theorem rs_CM {M P : Nat} {p q : List Nat} (hp : p.length ≤ 24) (k : Nat) : rs M P p q k p.length 0 = CM M P p q k := by
  unfold CM
  have := rs_long (M := M) (P := P) (p := p) (q := q) (k := k) (24 - p.length) p.length 0 (by omega)
  rw [show p.length + (24 - p.length) = 24 by omega] at this
  exact this.symm
theorem CM_nil {M P : Nat} (q : List Nat) (k : Nat) : CM M P [] q k = 0 := rs_0 24 0 (by simp)
theorem rs_add1 {M P : Nat} {a b s q : List Nat} {k : Nat} (hs : ∀ i, cf s i = cf a i ^^^ cf b i) : ∀ n i, rs M P s q k n i = rs M P a q k n i ^^^ rs M P b q k n i
  | 0, _ => (Nat.xor_self 0).symm
  | n + 1, i => by
    show tm M P s q i k ^^^ rs M P s q k n (i + 1) = (tm M P a q i k ^^^ rs M P a q k n (i + 1)) ^^^ (tm M P b q i k ^^^ rs M P b q k n (i + 1))
    rw [rs_add1 hs n (i + 1), xor4c (tm M P a q i k)]
    congr 1
    unfold tm
    by_cases d : i ≤ k
    · rw [if_pos d, if_pos d, if_pos d, hs, fmul_xor_l]
    · rw [if_neg d, if_neg d, if_neg d]; rfl
theorem rs_add2 {M P : Nat} (h : validB (M : Int) (P : Int) = true) {p a b s : List Nat} {k : Nat} (ha : ∀ y ∈ a, y < 2 ^ M) (hb : ∀ y ∈ b, y < 2 ^ M) (hs : ∀ i, cf s i = cf a i ^^^ cf b i) : ∀ n i, rs M P p s k n i = rs M P p a k n i ^^^ rs M P p b k n i
  | 0, _ => (Nat.xor_self 0).symm
  | n + 1, i => by
    show tm M P p s i k ^^^ rs M P p s k n (i + 1) = (tm M P p a i k ^^^ rs M P p a k n (i + 1)) ^^^ (tm M P p b i k ^^^ rs M P p b k n (i + 1))
    rw [rs_add2 h ha hb hs n (i + 1), xor4c (tm M P p a i k)]
    congr 1
    unfold tm
    by_cases d : i ≤ k
    · rw [if_pos d, if_pos d, if_pos d, hs, fsq_xor h _ (cf_lt (Nat.two_pow_pos M) ha _) (cf_lt (Nat.two_pow_pos M) hb _), fmul_xor_r]
    · rw [if_neg d, if_neg d, if_neg d]; rfl
end Go.Proofs.Ytkhjoomjjdgkjaa.P
end
section
namespace Go.Proofs.Ytkhjoomjjdgkjaa.P
open Go.RowKit Go.Proofs.YtkhjoomjjdgkjaaW.PrintWords Go.Proofs.YtkhjoomjjdgkjaaW.PrintLast Go.Proofs.YtkhjoomjjdgkjaaW.PrintMore
set_option linter.unusedVariables false
set_option linter.unusedSimpArgs false
theorem comp_both {M P : Nat} (h : validB (M : Int) (P : Int) = true) {pn qn : List Nat} (hl : pn.length ≤ 1048576) (hl' : qn.length ≤ 1048576) (hp : ∀ y ∈ pn, y < 2 ^ M) (hq : ∀ y ∈ qn, y < 2 ^ M) :
    ∃ rn : List Nat, rn.length ≤ pn.length + qn.length - 1 ∧ (∀ y ∈ rn, y < 2 ^ M) ∧ impl_Field_compose.d (M : Int) (P : Int) (up pn) (up qn) = some (up rn) ∧ spec_l03Compose.d (M : Int) (P : Int) (up pn) (up qn) = some (up rn) := by
  have hv := valid_bits h
  have none : ∃ rn : List Nat, rn.length ≤ pn.length + qn.length - 1 ∧ (∀ y ∈ rn, y < 2 ^ M) ∧ impl_Field_compose.j0d (up pn) (up qn) true (M : Int) (P : Int) = some (up rn) ∧ spec_l03Compose.j0d (up pn) (up qn) true (M : Int) (P : Int) = some (up rn) :=
    ⟨[], by simp, fun y hy => (nomatch hy), by rw [impl_Field_compose.j0d_eq, if_pos rfl]; rfl, by rw [spec_l03Compose.j0d_eq, if_pos rfl]; rfl⟩
  rw [impl_Field_compose.d_eq, spec_l03Compose.d_eq]
  by_cases c1 : ((up pn).length : Int) = 0
  · rw [if_pos c1, if_pos c1]; exact none
  · rw [if_neg c1, if_neg c1]
    by_cases c2 : (up qn).length = 0
    · have e : (((up qn).length : Int) == 0) = true := by rw [c2]; rfl
      rw [e]; exact none
    · have e : (((up qn).length : Int) == 0) = false := beq_eq_false_iff_ne.mpr (by omega)
      rw [up_length] at c1 c2
      have hw : wrap64 (wrap64 (((up pn).length : Int) + ((up qn).length : Int)) - 1) = ((pn.length + qn.length - 1 : Nat) : Int) := by
        rw [up_length, up_length, wr (x := (pn.length : Int) + (qn.length : Int)) (by omega) (by omega), wr (by omega) (by omega)]; omega
      rw [e, impl_Field_compose.j0d_eq, spec_l03Compose.j0d_eq, if_neg Bool.false_ne_true, if_neg Bool.false_ne_true, hw, Int.toNat_natCast]
      obtain ⟨L, hL⟩ : ∃ L, L = pn.length + qn.length - 1 := ⟨_, rfl⟩
      rw [← hL, if_pos (show (0 : Int) ≤ (L : Int) by omega), if_pos (show (0 : Int) ≤ (L : Int) by omega), if_pos (show L ≤ 35184372088832 by omega), if_pos (show L ≤ 35184372088832 by omega), up_zeros]
      have key : ∀ i, i ≤ pn.length → ∀ on : List Nat, on.length = L → (∀ y ∈ on, y < 2 ^ M) → ∃ rn : List Nat, rn.length ≤ L ∧ (∀ y ∈ rn, y < 2 ^ M) ∧
          impl_Field_compose.l0d (up qn) (up on) (up pn) ((up pn).length : Int) (i : Int) (M : Int) (P : Int) = some (up rn) ∧ spec_l03Compose.l0d (up pn) (up qn) (up on) (i : Int) (M : Int) (P : Int) = some (up rn) := by
        apply down
        · intro on h1 h2
          obtain ⟨rn, r1, r2, r3, r4⟩ := trim_up (by omega) h2
          exact ⟨rn, by omega, r2, by rw [impl_Field_compose.l0d_eq, if_neg (by rw [up_length]; omega), r3, bind_some'], by rw [spec_l03Compose.l0d_eq, if_neg (by rw [up_length]; omega), r4, bind_some']⟩
        · intro i hi ih on h1 h2
          have a1 := hp _ (List.getElem_mem hi)
          have row : ∀ j, j ≤ qn.length → ∀ on : List Nat, on.length = L → (∀ y ∈ on, y < 2 ^ M) → ∃ rn : List Nat, rn.length ≤ L ∧ (∀ y ∈ rn, y < 2 ^ M) ∧
              impl_Field_compose.l1d (up qn) (up on) (i : Int) ((pn[i] : Nat) : Int) (up pn) ((up pn).length : Int) (i : Int) (up qn) ((up qn).length : Int) (j : Int) (M : Int) (P : Int) = some (up rn) ∧ spec_l03Compose.l1d (up pn) (up qn) (up on) (i : Int) (j : Int) (M : Int) (P : Int) = some (up rn) := by
            apply down
            · intro on h1 h2
              obtain ⟨rn, r1, r2, r3, r4⟩ := ih on h1 h2
              exact ⟨rn, r1, r2, by rw [impl_Field_compose.l1d_eq, if_neg (by rw [up_length]; omega), wrS hi (by omega), r3], by rw [spec_l03Compose.l1d_eq, if_neg (by rw [up_length]; omega), wrS hi (by omega), r4]⟩
            · intro j hj ihj on h1 h2
              have hij : i + j < on.length := by omega
              have w : wrap64 ((i : Int) + (j : Int)) = ((i + j : Nat) : Int) := by rw [wr (by omega) (by omega)]; omega
              have w2 : wrap64 ((j : Int) + 1) = ((j + 1 : Nat) : Int) := wrS hj (by omega)
              have m63 : M ≤ 63 := by omega
              have z1 : (j : Int) < ((up qn).length : Int) := by rw [up_length]; exact Int.ofNat_lt.mpr hj
              have z2 : (i : Int) < ((up pn).length : Int) := by rw [up_length]; exact Int.ofNat_lt.mpr hi
              have z3 : ((i + j : Nat) : Int) < ((up on).length : Int) := by rw [up_length]; exact Int.ofNat_lt.mpr hij
              have b1 := h2 _ (List.getElem_mem hij)
              have b2 := hq _ (List.getElem_mem hj)
              have b3 := fsq_lt h (i % M) b2
              have b4 := fmul_lt h a1 (fsq M P (i % M) qn[j])
              obtain ⟨rn, r1, r2, r3, r4⟩ := ihj (on.set (i + j) (on[i + j] ^^^ fmul M P pn[i] (fsq M P (i % M) qn[j]))) (by rw [List.length_set]; exact h1) (set_bound h2 (Nat.xor_lt_two_pow b1 b4))
              have x := bxor (small62 m63 b1) (small62 m63 b4)
              refine ⟨rn, r1, r2, ?_, ?_⟩
              · rw [impl_Field_compose.l1d_eq, if_pos z1, if_pos (Int.natCast_nonneg j), if_pos z1, w, if_pos (Int.natCast_nonneg (i + j)), if_pos z3, up_get hj, i_sq_v h i b2, bind_some', i_mul_v h a1 b3, bind_some', up_get hij, x, Int.toNat_natCast, up_set, w2, r3]
              · rw [spec_l03Compose.l1d_eq, if_pos z1, w, if_pos (Int.natCast_nonneg (i + j)), if_pos z3, if_pos (Int.natCast_nonneg i), if_pos z2, if_pos (Int.natCast_nonneg j), up_get hj, s_sq_v h i b2, bind_some', up_get hi, s_mul_v h a1 b3, bind_some', up_get hij, x, Int.toNat_natCast, up_set, w2, r4]
          obtain ⟨rn, r1, r2, r3, r4⟩ := row 0 (by omega) on h1 h2
          refine ⟨rn, r1, r2, ?_, ?_⟩
          · rw [impl_Field_compose.l0d_eq, if_pos (by rw [up_length]; omega), if_pos (by omega), if_pos (by rw [up_length]; omega), up_get hi]; exact r3
          · rw [spec_l03Compose.l0d_eq, if_pos (by rw [up_length]; omega)]; exact r4
      exact key 0 (by omega) (List.replicate L 0) (by simp) (zeros_bound (Nat.two_pow_pos M))
end Go.Proofs.Ytkhjoomjjdgkjaa.P
end
section
namespace Go.Proofs.Ytkhjoomjjdgkjaa.P
open Go.RowKit Go.Proofs.YtkhjoomjjdgkjaaW.PrintWords Go.Proofs.YtkhjoomjjdgkjaaW.PrintLast Go.Proofs.YtkhjoomjjdgkjaaW.PrintMore
set_option linter.unusedVariables false
set_option linter.unusedSimpArgs false
theorem lsubw {a b : Nat} (ha : a ≤ 12) (hb : b ≤ a) : wrap64 ((a : Int) - (b : Int)) = ((a - b : Nat) : Int) := by rw [wr (by omega) (by omega)]; omega
theorem laddw {k : Nat} (h : k ≤ 1000) : wrap64 ((k : Int) + 1) = ((k + 1 : Nat) : Int) := by rw [wr (by omega) (by omega)]; omega
theorem lxorcut (a b c : Nat) : (a ^^^ b) ^^^ (c ^^^ b) = a ^^^ c := by rw [xor4c, Nat.xor_self, Nat.xor_zero]
set_option maxHeartbeats 2000000 in
/-- one round on the right, as the program goes it -/
theorem right_step {M P : Nat} (h : validB (M : Int) (P : Int) = true) {qn rn an : List Nat} (hq : qn.length ≤ 12) (bq : ∀ y ∈ qn, y < 2 ^ M) (nq : 0 < qn.length) (lq : lst qn ≠ 0) (h2 : rn.length ≤ 12) (h3 : an.length ≤ 12) (br : ∀ y ∈ rn, y < 2 ^ M) (ba : ∀ y ∈ an, y < 2 ^ M) (hr : 0 < rn.length → lst rn ≠ 0) (c : qn.length ≤ rn.length) :
    ∃ zn bn : List Nat, zn.length < rn.length ∧ (∀ y ∈ zn, y < 2 ^ M) ∧ (0 < zn.length → lst zn ≠ 0) ∧ (bn.length ≤ an.length ∨ bn.length ≤ rn.length) ∧ (∀ y ∈ bn, y < 2 ^ M) ∧ (0 < bn.length → lst bn ≠ 0) ∧
      impl_Field_divide.l0d (up qn) true (up an) (up rn) ((qn.length - 1 : Nat) : Int) (M : Int) (P : Int) = impl_Field_divide.l0d (up qn) true (up bn) (up zn) ((qn.length - 1 : Nat) : Int) (M : Int) (P : Int) ∧
      ∀ k, CM M P bn qn k ^^^ cf zn k = CM M P an qn k ^^^ cf rn k := by
  have hv := valid_bits h
  obtain ⟨k, hk⟩ : ∃ k, k = rn.length - qn.length := ⟨_, rfl⟩
  have g5 : k ≤ 1000 := by rw [hk]; exact Nat.le_trans (Nat.sub_le _ _) (Nat.le_trans h2 (by decide))
  have g0 : (rn.length : Int) ≥ (qn.length : Int) := by omega
  have g1 : ((rn.length - 1 : Nat) : Int) < (rn.length : Int) := by omega
  have g2 : ((qn.length - 1 : Nat) : Int) < (qn.length : Int) := by omega
  have g3 : k + 1 ≤ 35184372088832 := k13 g5
  have g4 : (k : Int) < ((List.replicate (k + 1) (0 : Int)).length : Int) := by simp; omega
  obtain ⟨s, hs⟩ : ∃ s, s = fsq M P (k % M) (lst qn) := ⟨_, rfl⟩
  obtain ⟨v, hvv⟩ : ∃ v, v = npow M P s (2 ^ M - 2) := ⟨_, rfl⟩
  obtain ⟨d, hd⟩ : ∃ d, d = fmul M P (lst rn) v := ⟨_, rfl⟩
  have nr : 0 < rn.length := by omega
  have hM : 0 < M := by omega
  have l1 := lst_lt nq bq
  have l2 := lst_lt nr br
  have l3 : s < 2 ^ M := by rw [hs]; exact fsq_lt h _ l1
  have l4 : v < 2 ^ M := by rw [hvv]; exact npow_lt h l3 _
  have l5 : d < 2 ^ M := by rw [hd]; exact fmul_lt h l2 _
  have sn : s ≠ 0 := by rw [hs]; exact ((inv_get h l1).2 (k % M) (Nat.mod_lt _ hM)).1 lq
  have e1 : fmul M P s v = 1 := by rw [fmul_comm h l3 l4, hvv]; exact (inv_get h l3).1 sn
  have e2 : fmul M P d s = lst rn := by rw [hd, fmul_assoc h l2 l4 l3, fmul_comm h l4 l3, e1, fmul_1 h l2]
  have tl := term_len d k
  obtain ⟨cn, zn, c1, c2, c3, c4, c5, c6, c7⟩ := cut_v h (rn := rn) (pn := term d k) (qn := qn) h2 (by omega) hq br (term_lt l5) bq (by omega) nq (by omega) (hr nr) (by rw [term_lst, tl, Nat.add_sub_cancel, ← hs, e2])
  obtain ⟨bn, b1, b2, b3, _, _, _⟩ := plus_both (M := M) (by omega) (xn := an) (yn := term d k) (by omega) (by omega) ba (term_lt l5)
  obtain ⟨cn', d1, d2, _⟩ := comp_cf h (pn := term d k) (qn := qn) (by omega) (by omega) (term_lt l5) bq
  obtain ⟨bn', f1, f2, f3⟩ := plus_cf (M := M) (by omega) (xn := an) (yn := term d k) (by omega) (by omega) ba (term_lt l5)
  obtain rfl : cn' = cn := up_inj (Option.some.inj (d1.symm.trans c1))
  obtain rfl : bn' = bn := up_inj (Option.some.inj (f1.symm.trans b3))
  have hcb := comp_both h (pn := term d k) (qn := qn) (by omega) (by omega) (term_lt l5) bq
  obtain ⟨cn2, k1, k2, k3, _⟩ := hcb
  obtain rfl : cn2 = cn' := up_inj (Option.some.inj (k3.symm.trans c1))
  obtain ⟨zn', m1, m2, _⟩ := plus_cf (M := M) (by omega) (xn := rn) (yn := cn2) (by omega) (by omega) br k2
  obtain rfl : zn' = zn := up_inj (Option.some.inj (m1.symm.trans c3))
  have wk : wrap64 ((rn.length : Int) - (qn.length : Int)) = (k : Int) := by rw [hk]; exact lsubw h2 c
  have wk1 : wrap64 ((k : Int) + 1) = ((k + 1 : Nat) : Int) := laddw g5
  have wr1 : wrap64 ((rn.length : Int) - 1) = ((rn.length - 1 : Nat) : Int) := len1 h2 nr
  refine ⟨zn', bn', c5, c6, c7, ?_, b2, f3, ?_, fun j => ?_⟩
  · clear wk wk1 wr1; omega
  · rw [impl_Field_divide.l0d_eq, up_length, up_length, if_pos g0, wk, wk1, Int.toNat_natCast, if_pos (Int.natCast_nonneg _), if_pos g3, bind_some', wr1, if_pos (Int.natCast_nonneg _), if_pos g1, if_pos rfl, if_pos (Int.natCast_nonneg _), if_pos g2,
      rd_lst nq, i_sq_v h k l1, bind_some', ← hs, i_inv_v h l3, bind_some', ← hvv, rd_lst nr, i_mul_v h l2 l4, bind_some', ← hd, if_pos (Int.natCast_nonneg _), if_pos g4, Int.toNat_natCast, i_term, bind_some', c1, bind_some', c3, bind_some', b3, bind_some']
  · clear wk wk1 wr1
    rw [m2, d2, rs_CM (by omega), show CM M P bn' qn j = CM M P an qn j ^^^ CM M P (term d k) qn j from rs_add1 f2 24 0]
    exact lxorcut _ _ _
set_option maxHeartbeats 2000000 in
theorem left_step {M P : Nat} (h : validB (M : Int) (P : Int) = true) {qn rn an : List Nat} (hq : qn.length ≤ 12) (bq : ∀ y ∈ qn, y < 2 ^ M) (nq : 0 < qn.length) (lq : lst qn ≠ 0) (h2 : rn.length ≤ 12) (h3 : an.length ≤ 12) (br : ∀ y ∈ rn, y < 2 ^ M) (ba : ∀ y ∈ an, y < 2 ^ M) (hr : 0 < rn.length → lst rn ≠ 0) (c : qn.length ≤ rn.length) :
    ∃ zn bn : List Nat, zn.length < rn.length ∧ (∀ y ∈ zn, y < 2 ^ M) ∧ (0 < zn.length → lst zn ≠ 0) ∧ (bn.length ≤ an.length ∨ bn.length ≤ rn.length) ∧ (∀ y ∈ bn, y < 2 ^ M) ∧ (0 < bn.length → lst bn ≠ 0) ∧
      impl_Field_divide.l0d (up qn) false (up an) (up rn) ((qn.length - 1 : Nat) : Int) (M : Int) (P : Int) = impl_Field_divide.l0d (up qn) false (up bn) (up zn) ((qn.length - 1 : Nat) : Int) (M : Int) (P : Int) ∧
      ∀ k, CM M P qn bn k ^^^ cf zn k = CM M P qn an k ^^^ cf rn k := by
  have hv := valid_bits h
  obtain ⟨k, hk⟩ : ∃ k, k = rn.length - qn.length := ⟨_, rfl⟩
  have g5 : k ≤ 1000 := by rw [hk]; exact Nat.le_trans (Nat.sub_le _ _) (Nat.le_trans h2 (by decide))
  have g0 : (rn.length : Int) ≥ (qn.length : Int) := by omega
  have g1 : ((rn.length - 1 : Nat) : Int) < (rn.length : Int) := by omega
  have g2 : ((qn.length - 1 : Nat) : Int) < (qn.length : Int) := by omega
  have g3 : k + 1 ≤ 35184372088832 := k13 g5
  have g4 : (k : Int) < ((List.replicate (k + 1) (0 : Int)).length : Int) := by simp; omega
  obtain ⟨v, hvv⟩ : ∃ v, v = npow M P (lst qn) (2 ^ M - 2) := ⟨_, rfl⟩
  obtain ⟨e, he⟩ : ∃ e, e = fmul M P (lst rn) v := ⟨_, rfl⟩
  obtain ⟨d, hd⟩ : ∃ d, d = fsq M P ((M - (qn.length - 1) % M) % M) e := ⟨_, rfl⟩
  have nr : 0 < rn.length := by omega
  have hM : 0 < M := by omega
  have l1 := lst_lt nq bq
  have l2 := lst_lt nr br
  have l4 : v < 2 ^ M := by rw [hvv]; exact npow_lt h l1 _
  have l5 : e < 2 ^ M := by rw [he]; exact fmul_lt h l2 _
  have l6 : d < 2 ^ M := by rw [hd]; exact fsq_lt h _ l5
  have e1 : fmul M P (lst qn) v = 1 := by rw [fmul_comm h l1 l4, hvv]; exact (inv_get h l1).1 lq
  have e2 : fmul M P (lst qn) e = lst rn := by rw [he, fmul_comm h l2 l4, ← fmul_assoc h l1 l4 l2, e1, fmul_1l h l2]
  have e3 : fsq M P ((qn.length - 1) % M) d = e := by rw [hd]; exact ((inv_get h l5).2 ((qn.length - 1) % M) (Nat.mod_lt _ hM)).2
  have tl := term_len d k
  obtain ⟨cn, zn, c1, c2, c3, c4, c5, c6, c7⟩ := cut_v h (rn := rn) (pn := qn) (qn := term d k) h2 hq (by omega) br bq (term_lt l6) nq (by omega) (by omega) (hr nr) (by rw [term_lst, e3, e2])
  obtain ⟨bn, b1, b2, b3, _, _, _⟩ := plus_both (M := M) (by omega) (xn := an) (yn := term d k) (by omega) (by omega) ba (term_lt l6)
  obtain ⟨cn', d1, d2, _⟩ := comp_cf h (pn := qn) (qn := term d k) (by omega) (by omega) bq (term_lt l6)
  obtain ⟨bn', f1, f2, f3⟩ := plus_cf (M := M) (by omega) (xn := an) (yn := term d k) (by omega) (by omega) ba (term_lt l6)
  obtain rfl : cn' = cn := up_inj (Option.some.inj (d1.symm.trans c1))
  obtain rfl : bn' = bn := up_inj (Option.some.inj (f1.symm.trans b3))
  have hcb := comp_both h (pn := qn) (qn := term d k) (by omega) (by omega) bq (term_lt l6)
  obtain ⟨cn2, k1, k2, k3, _⟩ := hcb
  obtain rfl : cn2 = cn' := up_inj (Option.some.inj (k3.symm.trans c1))
  obtain ⟨zn', m1, m2, _⟩ := plus_cf (M := M) (by omega) (xn := rn) (yn := cn2) (by omega) (by omega) br k2
  obtain rfl : zn' = zn := up_inj (Option.some.inj (m1.symm.trans c3))
  have wk : wrap64 ((rn.length : Int) - (qn.length : Int)) = (k : Int) := by rw [hk]; exact lsubw h2 c
  have wk1 : wrap64 ((k : Int) + 1) = ((k + 1 : Nat) : Int) := laddw g5
  have wr1 : wrap64 ((rn.length : Int) - 1) = ((rn.length - 1 : Nat) : Int) := len1 h2 nr
  refine ⟨zn', bn', c5, c6, c7, ?_, b2, f3, ?_, fun j => ?_⟩
  · clear wk wk1 wr1; omega
  · rw [impl_Field_divide.l0d_eq, up_length, up_length, if_pos g0, wk, wk1, Int.toNat_natCast, if_pos (Int.natCast_nonneg _), if_pos g3, bind_some', wr1, if_pos (Int.natCast_nonneg _), if_pos g1, if_neg Bool.false_ne_true, if_pos (Int.natCast_nonneg _), if_pos g2,
      rd_lst nq, i_inv_v h l1, bind_some', ← hvv, rd_lst nr, i_mul_v h l2 l4, bind_some', ← he, i_root_v h _ l5, bind_some', ← hd, if_pos (Int.natCast_nonneg _), if_pos g4, Int.toNat_natCast, i_term, bind_some', c1, bind_some', c3, bind_some', b3, bind_some']
  · clear wk wk1 wr1
    rw [m2, d2, rs_CM (by omega), show CM M P qn bn' j = CM M P qn an j ^^^ CM M P qn (term d k) j from rs_add2 h ba (term_lt l6) f2 24 0]
    exact lxorcut _ _ _
theorem div_rc {M P : Nat} (h : validB (M : Int) (P : Int) = true) {qn : List Nat} (hq : qn.length ≤ 12) (bq : ∀ y ∈ qn, y < 2 ^ M) (nq : 0 < qn.length) (lq : lst qn ≠ 0) :
    ∀ n, ∀ rn an : List Nat, rn.length ≤ n → rn.length ≤ 8 → an.length ≤ 8 → (∀ y ∈ rn, y < 2 ^ M) → (∀ y ∈ an, y < 2 ^ M) → (0 < rn.length → lst rn ≠ 0) → (0 < an.length → lst an ≠ 0) →
      ∃ a' r' : List Nat, a'.length ≤ 8 ∧ (∀ y ∈ a', y < 2 ^ M) ∧ (∀ y ∈ r', y < 2 ^ M) ∧ r'.length < qn.length ∧ (0 < r'.length → lst r' ≠ 0) ∧ (0 < a'.length → lst a' ≠ 0) ∧
        impl_Field_divide.l0d (up qn) true (up an) (up rn) ((qn.length - 1 : Nat) : Int) (M : Int) (P : Int) = some (up a', up r') ∧ ∀ k, CM M P a' qn k ^^^ cf r' k = CM M P an qn k ^^^ cf rn k := by
  intro n
  induction n with
  | zero =>
    intro rn an h1 h2 h3 br ba hr ha
    exact ⟨an, rn, h3, ba, br, by omega, hr, ha, by rw [impl_Field_divide.l0d_eq, if_neg (by rw [up_length, up_length]; omega)], fun _ => rfl⟩
  | succ n ih =>
    intro rn an h1 h2 h3 br ba hr ha
    by_cases c : qn.length ≤ rn.length
    · obtain ⟨zn, bn, s1, s2, s3, s4, s5, s6, s7, s8⟩ := right_step h (rn := rn) (an := an) hq bq nq lq (by omega) (by omega) br ba hr c
      obtain ⟨a', r', t1, t2, t3, t4, t5, t6, t7, t8⟩ := ih zn bn (by omega) (by omega) (by omega) s2 s5 s3 s6
      exact ⟨a', r', t1, t2, t3, t4, t5, t6, by rw [s7, t7], fun k => by rw [t8, s8]⟩
    · exact ⟨an, rn, h3, ba, br, by omega, hr, ha, by rw [impl_Field_divide.l0d_eq, if_neg (by rw [up_length, up_length]; omega)], fun _ => rfl⟩
theorem div_lc {M P : Nat} (h : validB (M : Int) (P : Int) = true) {qn : List Nat} (hq : qn.length ≤ 12) (bq : ∀ y ∈ qn, y < 2 ^ M) (nq : 0 < qn.length) (lq : lst qn ≠ 0) :
    ∀ n, ∀ rn an : List Nat, rn.length ≤ n → rn.length ≤ 8 → an.length ≤ 8 → (∀ y ∈ rn, y < 2 ^ M) → (∀ y ∈ an, y < 2 ^ M) → (0 < rn.length → lst rn ≠ 0) → (0 < an.length → lst an ≠ 0) →
      ∃ a' r' : List Nat, a'.length ≤ 8 ∧ (∀ y ∈ a', y < 2 ^ M) ∧ (∀ y ∈ r', y < 2 ^ M) ∧ r'.length < qn.length ∧ (0 < r'.length → lst r' ≠ 0) ∧ (0 < a'.length → lst a' ≠ 0) ∧
        impl_Field_divide.l0d (up qn) false (up an) (up rn) ((qn.length - 1 : Nat) : Int) (M : Int) (P : Int) = some (up a', up r') ∧ ∀ k, CM M P qn a' k ^^^ cf r' k = CM M P qn an k ^^^ cf rn k := by
  intro n
  induction n with
  | zero =>
    intro rn an h1 h2 h3 br ba hr ha
    exact ⟨an, rn, h3, ba, br, by omega, hr, ha, by rw [impl_Field_divide.l0d_eq, if_neg (by rw [up_length, up_length]; omega)], fun _ => rfl⟩
  | succ n ih =>
    intro rn an h1 h2 h3 br ba hr ha
    by_cases c : qn.length ≤ rn.length
    · obtain ⟨zn, bn, s1, s2, s3, s4, s5, s6, s7, s8⟩ := left_step h (rn := rn) (an := an) hq bq nq lq (by omega) (by omega) br ba hr c
      obtain ⟨a', r', t1, t2, t3, t4, t5, t6, t7, t8⟩ := ih zn bn (by omega) (by omega) (by omega) s2 s5 s3 s6
      exact ⟨a', r', t1, t2, t3, t4, t5, t6, by rw [s7, t7], fun k => by rw [t8, s8]⟩
    · exact ⟨an, rn, h3, ba, br, by omega, hr, ha, by rw [impl_Field_divide.l0d_eq, if_neg (by rw [up_length, up_length]; omega)], fun _ => rfl⟩
end Go.Proofs.Ytkhjoomjjdgkjaa.P
end
section
namespace Go.Proofs.Ytkhjoomjjdgkjaa.P
open Go.RowKit Go.Proofs.YtkhjoomjjdgkjaaW.PrintWords Go.Proofs.YtkhjoomjjdgkjaaW.PrintLast Go.Proofs.YtkhjoomjjdgkjaaW.PrintMore
set_option linter.unusedVariables false
set_option linter.unusedSimpArgs false
theorem drawnl_loop {l : List Int} (hb : Bytes l) (hl : l.length ≤ 4000) {M Q : Nat} (h : validB (M : Int) (Q : Int) = true) : ∀ k : Nat, ∀ (on : List Nat) (a t : Int), on.length + k ≤ 12 → 0 ≤ a → a + 2 * (k : Int) ≤ 1000 → (∀ y ∈ on, y < 2 ^ M) →
    ∃ (rn : List Nat) (b t' : Int), rn.length ≤ on.length + k ∧ (∀ y ∈ rn, y < 2 ^ M) ∧ (0 < rn.length → lst rn ≠ 0) ∧ spec_l03Drawn.l0d (up on) (k : Int) l a t (M : Int) (Q : Int) = some (up rn, b, t') := by
  have hv := valid_bits h
  have h5 : 2 ^ M ≤ 2 ^ 5 := Nat.pow_le_pow_right (by omega) hv.2.1
  have hp1 := Nat.two_pow_pos M
  intro k
  induction k with
  | zero =>
    intro on a t ho h0 ha hn
    obtain ⟨rn, r1, r2, _, r4, r5, _, _⟩ := trim_top (by omega) hn
    exact ⟨rn, a, t, by omega, r2, r5, by rw [spec_l03Drawn.l0d_eq, if_neg (by omega), r4, bind_some']⟩
  | succ k ih =>
    intro on a t ho h0 ha hn
    obtain ⟨v, b, t2, e, v0, v1, _, g, g'⟩ := pick_v hb hl (a := a) h0 (by omega) t ((2 ^ M : Nat) : Int) (by omega)
    obtain ⟨V, rfl⟩ : ∃ V : Nat, v = (V : Int) := ⟨v.toNat, by omega⟩
    have hV : V < 2 ^ M := by have := v1 (by omega); omega
    obtain ⟨rn, b', t', r1, r2, r3, r4⟩ := ih (on ++ [V]) b t2 (by simp; omega) (by omega) (by omega) (by
      intro y hy
      rcases List.mem_append.mp hy with z | z
      · exact hn y z
      · simp at z; rw [z]; exact hV)
    have w : wrap64 (((k + 1 : Nat) : Int) - 1) = (k : Int) := by rw [wr (by omega) (by omega)]; omega
    have g4 : (up on).length < 17592186044416 := by rw [up_length]; clear w; omega
    refine ⟨rn, b', t', by simp at r1; omega, r2, r3, ?_⟩
    rw [spec_l03Drawn.l0d_eq, if_pos (by omega), size_nat h, bind_some', e, bind_some', if_pos g4, w]
    rw [up_append] at r4
    exact r4
theorem drawnlin_v {l : List Int} (hb : Bytes l) (hl : l.length ≤ 4000) {M Q : Nat} (h : validB (M : Int) (Q : Int) = true) {n : Nat} (hn : n ≤ 12) :
    ∃ rn : List Nat, rn.length ≤ n ∧ (∀ y ∈ rn, y < 2 ^ M) ∧ (0 < rn.length → lst rn ≠ 0) ∧ spec_A2Linear.d l (M : Int) (Q : Int) (n : Int) = some (up rn) := by
  obtain ⟨v, b, t, e, v0, v1, _, g, g'⟩ := pick_v hb hl (a := 0) (by omega) (by omega) 0 ((n : Int) + 1) (by omega)
  obtain ⟨V, rfl⟩ : ∃ V : Nat, v = (V : Int) := ⟨v.toNat, by omega⟩
  have hV : V ≤ n := by have := v1 (by omega); omega
  obtain ⟨rn, b', t', r1, r2, r3, r4⟩ := drawnl_loop hb hl h V [] b t (by simp; omega) (by omega) (by omega) (by simp)
  refine ⟨rn, by simp at r1; omega, r2, r3, ?_⟩
  rw [spec_A2Linear.d_eq]
  unfold spec_l00From.f
  rw [bind_some']
  show (spec_l03Drawn.d l 0 0 (M : Int) (Q : Int) (n : Int)).bind _ = _
  rw [spec_l03Drawn.d_eq, wr (by omega) (by omega), e, bind_some']
  show (spec_l03Drawn.l0d (up []) (V : Int) l b t (M : Int) (Q : Int)).bind _ = _
  rw [r4, bind_some']
theorem lin_of {M : Nat} {ln : List Nat} (l : ln.length ≤ 12) (b : ∀ y ∈ ln, y < 2 ^ M) (z : 0 < ln.length → lst ln ≠ 0) : linB (M : Int) (up ln) = true := by
  unfold linB
  simp only [Bool.and_eq_true, Bool.or_eq_true, decide_eq_true_eq]
  refine ⟨⟨by rw [up_length]; exact l, ?_⟩, ?_⟩
  · rw [List.all_eq_true]
    intro x hx
    obtain ⟨y, hy, rfl⟩ := List.mem_map.mp hx
    exact elemB_nat2 (b y hy)
  · by_cases c : ln.length = 0
    · exact .inl (by rw [up_length]; exact c)
    · right
      have e : ((up ln).length : Int) - 1 = ((ln.length - 1 : Nat) : Int) := by rw [up_length]; omega
      have := z (by omega)
      rw [e, rd_lst (by omega)]
      omega
theorem lcode2 {M P : Nat} (h : validB (M : Int) (P : Int) = true) {a b : List Nat} (la : a.length ≤ 12) (lb : b.length ≤ 12) (ba : ∀ y ∈ a, y < 2 ^ M) (bb : ∀ y ∈ b, y < 2 ^ M) (za : 0 < a.length → lst a ≠ 0) (zb : 0 < b.length → lst b ≠ 0) :
    impl_Field_linearCode.d (M : Int) (P : Int) [up a, up b] = some 0 := by
  rw [i_linearCode2_v _ _ (by rw [up_length]; omega) (by rw [up_length]; omega), if_pos (by rw [h, lin_of la ba za, lin_of lb bb zb]; rfl)]
theorem vlin_v {M P : Nat} (h : validB (M : Int) (P : Int) = true) {a : List Nat} (la : a.length ≤ 12) (ba : ∀ y ∈ a, y < 2 ^ M) (za : 0 < a.length → lst a ≠ 0) : spec_ValidLinear.d (M : Int) (P : Int) (up a) = some true := by
  rw [s_ValidLinear_v _ _ (by rw [up_length]; omega), h, lin_of la ba za]; rfl
theorem compL_v {M P : Nat} (h : validB (M : Int) (P : Int) = true) {a b : List Nat} (la : a.length ≤ 12) (lb : b.length ≤ 12) (lab : a.length + b.length ≤ 13) (ba : ∀ y ∈ a, y < 2 ^ M) (bb : ∀ y ∈ b, y < 2 ^ M) (za : 0 < a.length → lst a ≠ 0) (zb : 0 < b.length → lst b ≠ 0) :
    ∃ rn : List Nat, impl_ComposeLinear.d (M : Int) (P : Int) (up a) (up b) = some (up rn, 0) ∧ rn.length ≤ 12 ∧ (∀ y ∈ rn, y < 2 ^ M) ∧ (0 < rn.length → lst rn ≠ 0) ∧ ∀ k, cf rn k = CM M P a b k := by
  obtain ⟨rn, r1, r2, r3, _⟩ := comp_both h (pn := a) (qn := b) (by omega) (by omega) ba bb
  obtain ⟨rn', d1, d2, d3⟩ := comp_cf h (pn := a) (qn := b) (by omega) (by omega) ba bb
  obtain rfl : rn' = rn := up_inj (Option.some.inj (d1.symm.trans r3))
  have g : ¬ ((up rn').length : Int) > 12 := by rw [up_length]; omega
  refine ⟨rn', ?_, by omega, r2, d3, fun k => by rw [d2, rs_CM (by omega)]⟩
  rw [impl_ComposeLinear.d_eq, lcode2 h la lb ba bb za zb, bind_some', if_pos rfl, r3, bind_some', if_neg g]
theorem sumL_v {M P : Nat} (h : validB (M : Int) (P : Int) = true) {a b : List Nat} (la : a.length ≤ 12) (lb : b.length ≤ 12) (ba : ∀ y ∈ a, y < 2 ^ M) (bb : ∀ y ∈ b, y < 2 ^ M) (za : 0 < a.length → lst a ≠ 0) (zb : 0 < b.length → lst b ≠ 0) :
    ∃ rn : List Nat, impl_SumLinear.d (M : Int) (P : Int) (up a) (up b) = some (up rn, 0) ∧ rn.length ≤ 12 ∧ (∀ y ∈ rn, y < 2 ^ M) ∧ (0 < rn.length → lst rn ≠ 0) ∧ ∀ k, cf rn k = cf a k ^^^ cf b k := by
  have hv := valid_bits h
  obtain ⟨rn, r1, r2, r3, _, _, _⟩ := plus_both (M := M) (by omega) (xn := a) (yn := b) (by omega) (by omega) ba bb
  obtain ⟨rn', d1, d2, d3⟩ := plus_cf (M := M) (by omega) (xn := a) (yn := b) (by omega) (by omega) ba bb
  obtain rfl : rn' = rn := up_inj (Option.some.inj (d1.symm.trans r3))
  refine ⟨rn', ?_, by omega, r2, d3, d2⟩
  rw [impl_SumLinear.d_eq, lcode2 h la lb ba bb za zb, bind_some', if_pos rfl, r3, bind_some']
end Go.Proofs.Ytkhjoomjjdgkjaa.P
end
section
namespace Go.Proofs.Ytkhjoomjjdgkjaa.P
open Go.RowKit Go.Proofs.YtkhjoomjjdgkjaaW.PrintWords Go.Proofs.YtkhjoomjjdgkjaaW.PrintLast Go.Proofs.YtkhjoomjjdgkjaaW.PrintMore
set_option linter.unusedVariables false
set_option linter.unusedSimpArgs false
theorem dR_v {M P : Nat} (h : validB (M : Int) (P : Int) = true) {p q : List Nat} (lp : p.length ≤ 8) (lq : q.length ≤ 12) (bp : ∀ y ∈ p, y < 2 ^ M) (bq : ∀ y ∈ q, y < 2 ^ M) (zp : 0 < p.length → lst p ≠ 0) (zq : lst q ≠ 0) (nq : 0 < q.length) :
    ∃ a r : List Nat, impl_DivideRight.d (M : Int) (P : Int) (up p) (up q) = some (up a, up r, 0) ∧ a.length ≤ 8 ∧ (∀ y ∈ a, y < 2 ^ M) ∧ (∀ y ∈ r, y < 2 ^ M) ∧ r.length < q.length ∧ (0 < r.length → lst r ≠ 0) ∧ (0 < a.length → lst a ≠ 0) ∧ ∀ k, CM M P a q k ^^^ cf r k = cf p k := by
  obtain ⟨a, r, r1, r2, r3, r4, r5, r6, r7, r8⟩ := div_rc h lq bq nq zq p.length p [] (Nat.le_refl _) lp (by simp) bp (by simp) zp (by simp)
  have e : (((up q).length : Int) == 0) = false := by rw [up_length]; exact beq_eq_false_iff_ne.mpr (by omega)
  refine ⟨a, r, ?_, r1, r2, r3, r4, r5, r6, fun k => by rw [r8, CM_nil, Nat.zero_xor]⟩
  rw [impl_DivideRight.d_eq, impl_Field_divided.d_eq, lcode2 h (by omega) lq bp bq zp (fun _ => zq), bind_some', if_pos rfl, e, impl_Field_divided.j0d_eq, if_neg Bool.false_ne_true, if_pos rfl, impl_Field_divide.d_eq, cl_up (by omega), bind_some', up_length, len1 lq nq]
  rw [show impl_Field_divide.l0d (up q) true [] (up p) ((q.length - 1 : Nat) : Int) (M : Int) (P : Int) = some (up a, up r) from r7]
  rfl
theorem dL_v {M P : Nat} (h : validB (M : Int) (P : Int) = true) {p q : List Nat} (lp : p.length ≤ 8) (lq : q.length ≤ 12) (bp : ∀ y ∈ p, y < 2 ^ M) (bq : ∀ y ∈ q, y < 2 ^ M) (zp : 0 < p.length → lst p ≠ 0) (zq : lst q ≠ 0) (nq : 0 < q.length) :
    ∃ a r : List Nat, impl_DivideLeft.d (M : Int) (P : Int) (up p) (up q) = some (up a, up r, 0) ∧ a.length ≤ 8 ∧ (∀ y ∈ a, y < 2 ^ M) ∧ (∀ y ∈ r, y < 2 ^ M) ∧ r.length < q.length ∧ (0 < r.length → lst r ≠ 0) ∧ (0 < a.length → lst a ≠ 0) ∧ ∀ k, CM M P q a k ^^^ cf r k = cf p k := by
  obtain ⟨a, r, r1, r2, r3, r4, r5, r6, r7, r8⟩ := div_lc h lq bq nq zq p.length p [] (Nat.le_refl _) lp (by simp) bp (by simp) zp (by simp)
  have e : (((up q).length : Int) == 0) = false := by rw [up_length]; exact beq_eq_false_iff_ne.mpr (by omega)
  have z : ∀ k, CM M P q [] k = 0 := by
    intro k
    have : ∀ n i, rs M P q [] k n i = 0 := by
      intro n
      induction n with
      | zero => intro i; rfl
      | succ n ih =>
        intro i
        show tm M P q [] i k ^^^ rs M P q [] k n (i + 1) = 0
        rw [ih, Nat.xor_zero]
        unfold tm
        by_cases d : i ≤ k
        · rw [if_pos d, cf_out (l := []) (by simp), fsq_z h, fmul_0r]
        · rw [if_neg d]
    exact this 24 0
  refine ⟨a, r, ?_, r1, r2, r3, r4, r5, r6, fun k => by rw [r8, z, Nat.zero_xor]⟩
  rw [impl_DivideLeft.d_eq, impl_Field_divided.d_eq, lcode2 h (by omega) lq bp bq zp (fun _ => zq), bind_some', if_pos rfl, e, impl_Field_divided.j0d_eq, if_neg Bool.false_ne_true, if_pos rfl, impl_Field_divide.d_eq, cl_up (by omega), bind_some', up_length, len1 lq nq]
  rw [show impl_Field_divide.l0d (up q) false [] (up p) ((q.length - 1 : Nat) : Int) (M : Int) (P : Int) = some (up a, up r) from r7]
  rfl
theorem d0_v {M P : Nat} (h : validB (M : Int) (P : Int) = true) {p : List Nat} (lp : p.length ≤ 8) (bp : ∀ y ∈ p, y < 2 ^ M) (zp : 0 < p.length → lst p ≠ 0) :
    impl_DivideRight.d (M : Int) (P : Int) (up p) (up []) = some ([], [], 4) ∧ impl_DivideLeft.d (M : Int) (P : Int) (up p) (up []) = some ([], [], 4) := by
  have e : (((up []).length : Int) == 0) = true := rfl
  constructor
  · rw [impl_DivideRight.d_eq, impl_Field_divided.d_eq, lcode2 h (by omega) (by simp) bp (by simp) zp (by simp), bind_some', if_pos rfl, e, impl_Field_divided.j0d_eq, if_pos rfl, if_neg (by decide)]; rfl
  · rw [impl_DivideLeft.d_eq, impl_Field_divided.d_eq, lcode2 h (by omega) (by simp) bp (by simp) zp (by simp), bind_some', if_pos rfl, e, impl_Field_divided.j0d_eq, if_pos rfl, if_neg (by decide)]; rfl
theorem same_v (a : List Nat) (h : a.length ≤ 12) : spec_SameList.d (up a) (up a) = some true := by
  rw [spec_SameList.d_eq, spec_l00Same.d_eq]
  have key : ∀ i, i ≤ a.length → spec_l00Same.l0d (up a) (up a) (i : Int) = some true := by
    apply down
    · rw [spec_l00Same.l0d_eq, if_neg (by rw [up_length]; omega)]
    · intro i hi ih
      rw [spec_l00Same.l0d_eq, if_pos (by rw [up_length]; omega), if_pos (by omega), if_pos (by rw [up_length]; omega), if_pos rfl, wrS hi (by omega), ih]
  have k0 : spec_l00Same.l0d (up a) (up a) 0 = some true := key 0 (by omega)
  rw [if_pos rfl, k0, bind_some']
theorem FnDiv_j0 {M P : Nat} (h : validB (M : Int) (P : Int) = true) {p q a r b s : List Nat} (lp : p.length ≤ 8) (zp : 0 < p.length → lst p ≠ 0) (lq : q.length ≤ 4) (bq : ∀ y ∈ q, y < 2 ^ M) (zq : 0 < q.length → lst q ≠ 0)
    (la : a.length ≤ 8) (ba : ∀ y ∈ a, y < 2 ^ M) (za : 0 < a.length → lst a ≠ 0) (lr : r.length < q.length) (br : ∀ y ∈ r, y < 2 ^ M) (zr : 0 < r.length → lst r ≠ 0) (ea : ∀ k, CM M P a q k ^^^ cf r k = cf p k)
    (lb : b.length ≤ 8) (bb : ∀ y ∈ b, y < 2 ^ M) (zb : 0 < b.length → lst b ≠ 0) (ls : s.length < q.length) (bs : ∀ y ∈ s, y < 2 ^ M) (zs : 0 < s.length → lst s ≠ 0) (eb : ∀ k, CM M P q b k ^^^ cf s k = cf p k) :
    laws_FnDivisions.j0d (up p) (up q) (up a) (up r) (up b) (up s) false (M : Int) (P : Int) = some true := by
  obtain ⟨x, x1, x2, x3, x4, x5⟩ := compL_v h (a := a) (b := q) (by omega) (by omega) (by omega) ba bq za zq
  obtain ⟨y, y1, y2, y3, y4, y5⟩ := compL_v h (a := q) (b := b) (by omega) (by omega) (by omega) bq bb zq zb
  obtain ⟨u, u1, u2, u3, u4, u5⟩ := sumL_v h (a := x) (b := r) x2 (by omega) x3 br x4 zr
  obtain ⟨v, v1, v2, v3, v4, v5⟩ := sumL_v h (a := y) (b := s) y2 (by omega) y3 bs y4 zs
  obtain rfl : u = p := cf_ext u4 zp fun k => by rw [u5, x5, ea]
  obtain rfl : v = u := cf_ext v4 zp fun k => by rw [v5, y5, eb]
  rw [laws_FnDivisions.j0d_eq, if_neg Bool.false_ne_true, x1, bind_some', y1, bind_some', u1, bind_some', v1, bind_some', if_pos rfl, if_pos rfl, if_pos rfl, if_pos rfl, same_v _ u2, bind_some', if_pos rfl, bind_some']
theorem FnDivisions_law (l0 l1 : List Int) (h1 : ∀ x ∈ l0, (Lit.int .u8 x).wf = true) (h3 : ∀ x ∈ l1, (Lit.int .u8 x).wf = true) : laws_FnDivisions.d l0 l1 = some true := by
  by_cases c : ¬ (l0.length ≤ 3000 ∧ l1.length ≤ 3000)
  · rw [laws_FnDivisions.d_eq, long_v c, bind_some', if_pos rfl]
  · obtain ⟨c0, c1⟩ := Classical.not_not.mp c
    have b0 := bytes_of h1
    have b1 := bytes_of h3
    obtain ⟨M, Q, eF, h⟩ := field_v b0 c0
    obtain ⟨p, lp, bp, zp, ep⟩ := drawnlin_v b1 (by omega) h (n := 7) (by omega)
    have b9 : Bytes ([9] ++ l0) := by
      intro x hx
      rcases List.mem_append.mp hx with z | z
      · simp at z; omega
      · exact b0 x z
    obtain ⟨q, lq, bq, zq, eq⟩ := drawnlin_v b9 (by simp; omega) h (n := 4) (by omega)
    have g : ([9] : List Int).length + l0.length < 140737488355328 := by simp; omega
    have ep' : spec_A2Linear.d l1 (M : Int) (Q : Int) 7 = some (up p) := ep
    have eq' : spec_A2Linear.d ([9] ++ l0) (M : Int) (Q : Int) 4 = some (up q) := eq
    rw [laws_FnDivisions.d_eq, short_v c0 c1, bind_some', if_neg Bool.false_ne_true, eF, bind_some', ep', bind_some', bind_some', if_pos g, eq', bind_some']
    by_cases z : q.length = 0
    · obtain rfl : q = [] := List.eq_nil_of_length_eq_zero z
      obtain ⟨d1, d2⟩ := d0_v h (p := p) (by omega) bp zp
      rw [d1, bind_some', d2, bind_some', if_pos (by simp [up]), if_pos rfl]; rfl
    · have nq : 0 < q.length := by omega
      obtain ⟨a, r, d1, la, ba, br, lr, zr, za, ea⟩ := dR_v h (p := p) (q := q) (by omega) (by omega) bp bq zp (zq nq) nq
      obtain ⟨b, s, d2, lb, bb, bs, ls, zs, zb, eb⟩ := dL_v h (p := p) (q := q) (by omega) (by omega) bp bq zp (zq nq) nq
      have n1 : ¬ ((up q).length : Int) = 0 := by rw [up_length]; omega
      have n2 : ¬ ((up r).length : Int) ≥ ((up q).length : Int) := by rw [up_length, up_length]; omega
      have n3 : ¬ ((up s).length : Int) ≥ ((up q).length : Int) := by rw [up_length, up_length]; omega
      rw [d1, bind_some', d2, bind_some', if_neg n1, if_pos rfl, if_pos rfl, if_neg n2, if_neg n3, vlin_v h (by omega) ba za, bind_some', if_pos rfl, vlin_v h (by omega) bb zb, bind_some', if_pos rfl, vlin_v h (by omega) br zr, bind_some', if_pos rfl, vlin_v h (by omega) bs zs, bind_some']
      exact FnDiv_j0 h (by omega) zp lq bq zq la ba za lr br zr ea lb bb zb ls bs zs eb
end Go.Proofs.Ytkhjoomjjdgkjaa.P
end
section
namespace Go.Proofs.Ytkhjoomjjdgkjaa.P
open Go.RowKit Go.Proofs.YtkhjoomjjdgkjaaW.PrintWords Go.Proofs.YtkhjoomjjdgkjaaW.PrintLast Go.Proofs.YtkhjoomjjdgkjaaW.PrintMore
/-- The one pure statement of laws_FnDivisions. -/
def laws_FnDivisions.Pure : Prop := ∀ (l0 : List Int) (l1 : List Int), (l0.length ≤ maxLen) → (∀ x ∈ l0, (Lit.int .u8 x).wf = true) → (l1.length ≤ maxLen) → (∀ x ∈ l1, (Lit.int .u8 x).wf = true) → ∃ k, laws_FnDivisions.f k l0 l1 = some true
end Go.Proofs.Ytkhjoomjjdgkjaa.P
end
section
namespace Go.Proofs.Ytkhjoomjjdgkjaa.Pure
theorem FnDivisions : P.laws_FnDivisions.Pure := fun l0 l1 _ h1_ _ h3_ => P.IsLim.some_ (P.laws_FnDivisions.lim l0 l1) (P.FnDivisions_law l0 l1 h1_ h3_)
end Go.Proofs.Ytkhjoomjjdgkjaa.Pure
end
