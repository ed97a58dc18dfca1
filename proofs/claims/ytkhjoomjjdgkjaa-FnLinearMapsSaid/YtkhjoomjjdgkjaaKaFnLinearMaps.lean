/- What the functions of the law FnLinearMaps tell without rounds, and its pure statement. -/
import Derived.Test.YtkhjoomjjdgkjaaPx0
import Derived.Test.YtkhjoomjjdgkjaaPx1
import Derived.Test.YtkhjoomjjdgkjaaPx2
import Derived.Test.YtkhjoomjjdgkjaaPx18
import Derived.Test.YtkhjoomjjdgkjaaPx19
import Derived.Test.YtkhjoomjjdgkjaaPx3
import Derived.Test.YtkhjoomjjdgkjaaPx4
import Derived.Test.YtkhjoomjjdgkjaaPx5
import Derived.Test.YtkhjoomjjdgkjaaPx28
import Derived.Test.YtkhjoomjjdgkjaaPx29
import Derived.Test.YtkhjoomjjdgkjaaPx30
import Derived.Test.YtkhjoomjjdgkjaaPx7
import Derived.Test.YtkhjoomjjdgkjaaPx31
import Derived.Test.YtkhjoomjjdgkjaaPx32
import Derived.Test.YtkhjoomjjdgkjaaPx33
import Derived.Test.YtkhjoomjjdgkjaaPx6
import Derived.Test.YtkhjoomjjdgkjaaPx20
import Derived.Test.YtkhjoomjjdgkjaaPx38
import Derived.ProofKit
import Derived.Test.YtkhjoomjjdgkjaaPx8
import Derived.Test.YtkhjoomjjdgkjaaPx10
import Derived.Test.YtkhjoomjjdgkjaaPx9
import Derived.Test.YtkhjoomjjdgkjaaPx11
import Derived.Test.YtkhjoomjjdgkjaaPx15
import Derived.Test.YtkhjoomjjdgkjaaPx22
import Derived.Test.YtkhjoomjjdgkjaaPx13
import Derived.Test.YtkhjoomjjdgkjaaPx14
section
namespace Go.Proofs.Ytkhjoomjjdgkjaa.P
open Go.RowKit Go.Proofs.YtkhjoomjjdgkjaaW.PrintWords Go.Proofs.YtkhjoomjjdgkjaaW.PrintLast Go.Proofs.YtkhjoomjjdgkjaaW.PrintMore
set_option linter.unusedVariables false
set_option linter.unusedSimpArgs false
def IsLim {α : Type} (g : Nat → Option α) (v : Option α) : Prop := (∀ k, LeO (g k) (g (k + 1))) ∧ ∀ r, v = some r ↔ ∃ k, g k = some r
theorem leO_le {α : Type} {g : Nat → Option α} (h : ∀ k, LeO (g k) (g (k + 1))) {j k : Nat} (hjk : j ≤ k) : LeO (g j) (g k) := by
  induction hjk with
  | refl => exact fun _ e => e
  | step _ ih => exact fun r e => h _ r (ih r e)
open Classical in
noncomputable def lim {α : Type} (g : Nat → Option α) : Option α := if h : ∃ r, ∃ k, g k = some r then some h.choose else none
theorem lim_spec {α : Type} {g : Nat → Option α} (h : ∀ k, LeO (g k) (g (k + 1))) : IsLim g (lim g) := by
  refine ⟨h, fun r => ?_⟩
  unfold lim
  by_cases hx : ∃ r, ∃ k, g k = some r
  · rw [dif_pos hx]
    obtain ⟨k, hk⟩ := hx.choose_spec
    constructor
    · intro e; exact ⟨k, by rw [hk]; exact e⟩
    · rintro ⟨j, hj⟩
      have a := leO_le h (Nat.le_max_left j k) _ hj
      have b := leO_le h (Nat.le_max_right j k) _ hk
      rw [a] at b; exact b.symm
  · rw [dif_neg hx]
    constructor
    · intro e; cases e
    · rintro ⟨k, hk⟩; exact absurd ⟨r, k, hk⟩ hx
theorem IsLim.unique {α : Type} {g : Nat → Option α} {v v' : Option α} (h : IsLim g v) (h' : IsLim g v') : v = v' :=
  Option.ext fun r => (h.2 r).trans (h'.2 r).symm
theorem IsLim.const {α : Type} (v : Option α) : IsLim (fun _ => v) v := ⟨fun _ _ e => e, fun _ => ⟨fun e => ⟨0, e⟩, fun ⟨_, e⟩ => e⟩⟩
theorem IsLim.ite {α : Type} {c : Prop} [Decidable c] {g g' : Nat → Option α} {v v' : Option α} (h : IsLim g v) (h' : IsLim g' v') :
    IsLim (fun k => if c then g k else g' k) (if c then v else v') := by
  by_cases hc : c
  · simp only [if_pos hc]; exact h
  · simp only [if_neg hc]; exact h'
theorem IsLim.bind {α β : Type} {g : Nat → Option α} {v : Option α} {q : Nat → α → Option β} {w : α → Option β}
    (h : IsLim g v) (hq : ∀ x, IsLim (fun k => q k x) (w x)) : IsLim (fun k => (g k).bind (q k)) (v.bind w) := by
  refine ⟨fun k r e => ?_, fun r => ?_⟩
  · obtain ⟨x, hx, hr⟩ := Option.bind_eq_some_iff.mp e
    exact Option.bind_eq_some_iff.mpr ⟨x, h.1 k x hx, (hq x).1 k r hr⟩
  · constructor
    · intro e
      obtain ⟨x, hx, hr⟩ := Option.bind_eq_some_iff.mp e
      obtain ⟨j, hj⟩ := (h.2 x).mp hx
      obtain ⟨k, hk⟩ := ((hq x).2 r).mp hr
      exact ⟨max j k, Option.bind_eq_some_iff.mpr ⟨x, leO_le h.1 (Nat.le_max_left j k) _ hj, leO_le (hq x).1 (Nat.le_max_right j k) _ hk⟩⟩
    · rintro ⟨k, e⟩
      obtain ⟨x, hx, hr⟩ := Option.bind_eq_some_iff.mp e
      exact Option.bind_eq_some_iff.mpr ⟨x, (h.2 x).mpr ⟨k, hx⟩, ((hq x).2 r).mpr ⟨k, hr⟩⟩
theorem IsLim.shift {α : Type} {g : Nat → Option α} {v : Option α} (h0 : g 0 = none) (h : IsLim (fun k => g (k + 1)) v) : IsLim g v := by
  refine ⟨fun k => ?_, fun r => ?_⟩
  · cases k with
    | zero => intro r e; rw [h0] at e; cases e
    | succ k => exact h.1 k
  · rw [h.2 r]
    constructor
    · rintro ⟨k, e⟩; exact ⟨k + 1, e⟩
    · rintro ⟨k, e⟩
      cases k with
      | zero => rw [h0] at e; cases e
      | succ k => exact ⟨k, e⟩
theorem IsLim.some_ {α : Type} {g : Nat → Option α} {v : Option α} {r : α} (h : IsLim g v) (e : v = some r) : ∃ k, g k = some r := (h.2 r).mp e
noncomputable def spec_l01Degree.l0d (x0 : Int) (x3 : Int) : Option (Int) := lim (fun k => spec_l01Degree.l0 k x0 x3)
theorem spec_l01Degree.l0lim (x0 : Int) (x3 : Int) : IsLim (fun k => spec_l01Degree.l0 k x0 x3) (spec_l01Degree.l0d x0 x3) := lim_spec (fun k => (spec_l01Degree.mono_l k) x0 x3)
theorem spec_l01Degree.l0d_eq (x0 : Int) (x3 : Int) : spec_l01Degree.l0d x0 x3 = if x0 > 0 then (spec_l01Degree.l0d (wrap64 (Int.tdiv x0 2)) (wrap64 (x3 + 1))) else (some x3) := by
  refine IsLim.unique (spec_l01Degree.l0lim _ _) ?_
  refine IsLim.shift (by rfl) ?_
  simp only [spec_l01Degree.l0]
  repeat' (first | exact IsLim.const _ | refine IsLim.ite ?_ ?_ | refine IsLim.bind ?_ (fun _ => ?_) | exact spec_l01Degree.l0lim ..)
noncomputable def spec_l01Degree.d (a0 : Int) : Option (Int) := lim (fun k => spec_l01Degree.f k a0)
theorem spec_l01Degree.lim (a0 : Int) : IsLim (fun k => spec_l01Degree.f k a0) (spec_l01Degree.d a0) := lim_spec (fun k => spec_l01Degree.mono a0 k)
theorem spec_l01Degree.d_eq (a0 : Int) : spec_l01Degree.d a0 = spec_l01Degree.l0d a0 (-1) := by
  refine IsLim.unique (spec_l01Degree.lim _) ?_
  unfold spec_l01Degree.f
  repeat' (first | exact IsLim.const _ | refine IsLim.ite ?_ ?_ | refine IsLim.bind ?_ (fun _ => ?_) | exact spec_l01Degree.l0lim ..)
noncomputable def spec_l01Rest.l0d (x0 : Int) (x1 : Int) (x5 : Int) : Option (Int) := lim (fun k => spec_l01Rest.l0 k x0 x1 x5)
theorem spec_l01Rest.l0lim (x0 : Int) (x1 : Int) (x5 : Int) : IsLim (fun k => spec_l01Rest.l0 k x0 x1 x5) (spec_l01Rest.l0d x0 x1 x5) := lim_spec (fun k => (spec_l01Rest.mono_l k) x0 x1 x5)
theorem spec_l01Rest.l0d_eq (x0 : Int) (x1 : Int) (x5 : Int) : spec_l01Rest.l0d x0 x1 x5 = (spec_l01Degree.d x0).bind fun t102 => (if t102 ≥ x5 then ((spec_l01Degree.d x0).bind fun t103 => (if 0 ≤ (IntKind.u64.wrap (wrap64 (t103 - x5))) then (spec_l01Rest.l0d (Go.bits .xor .i64 x0 (shl .i64 x1 (IntKind.u64.wrap (wrap64 (t103 - x5))))) x1 x5) else (none))) else (some x0)) := by
  refine IsLim.unique (spec_l01Rest.l0lim _ _ _) ?_
  refine IsLim.shift (by rfl) ?_
  simp only [spec_l01Rest.l0]
  repeat' (first | exact IsLim.const _ | refine IsLim.ite ?_ ?_ | refine IsLim.bind ?_ (fun _ => ?_) | exact spec_l01Degree.lim .. | exact spec_l01Rest.l0lim ..)
noncomputable def spec_l01Rest.d (a0 : Int) (a1 : Int) : Option (Int) := lim (fun k => spec_l01Rest.f k a0 a1)
theorem spec_l01Rest.lim (a0 : Int) (a1 : Int) : IsLim (fun k => spec_l01Rest.f k a0 a1) (spec_l01Rest.d a0 a1) := lim_spec (fun k => spec_l01Rest.mono a0 a1 k)
theorem spec_l01Rest.d_eq (a0 : Int) (a1 : Int) : spec_l01Rest.d a0 a1 = (spec_l01Degree.d a1).bind fun t101 => (spec_l01Rest.l0d a0 a1 t101) := by
  refine IsLim.unique (spec_l01Rest.lim _ _) ?_
  unfold spec_l01Rest.f
  repeat' (first | exact IsLim.const _ | refine IsLim.ite ?_ ?_ | refine IsLim.bind ?_ (fun _ => ?_) | exact spec_l01Degree.lim .. | exact spec_l01Rest.l0lim ..)
noncomputable def spec_l01Irreducible.d (a0 : Int) : Option (Bool) := lim (fun k => spec_l01Irreducible.f k a0)
theorem spec_l01Irreducible.lim (a0 : Int) : IsLim (fun k => spec_l01Irreducible.f k a0) (spec_l01Irreducible.d a0) := lim_spec (fun k => spec_l01Irreducible.mono a0 k)
noncomputable def spec_IsIrreducible.d (a0 : Int) : Option (Bool) := lim (fun k => spec_IsIrreducible.f k a0)
theorem spec_IsIrreducible.lim (a0 : Int) : IsLim (fun k => spec_IsIrreducible.f k a0) (spec_IsIrreducible.d a0) := lim_spec (fun k => spec_IsIrreducible.mono a0 k)
theorem spec_IsIrreducible.d_eq (a0 : Int) : spec_IsIrreducible.d a0 = if a0 > 0 then (if a0 < 64 then ((spec_l01Irreducible.d a0).bind fun t107 => (some t107)) else (some false)) else (some false) := by
  refine IsLim.unique (spec_IsIrreducible.lim _) ?_
  unfold spec_IsIrreducible.f
  repeat' (first | exact IsLim.const _ | refine IsLim.ite ?_ ?_ | refine IsLim.bind ?_ (fun _ => ?_) | exact spec_l01Irreducible.lim ..)
noncomputable def spec_l01Ok.d (a0_0 : Int) (a0_1 : Int) : Option (Bool) := lim (fun k => spec_l01Ok.f k a0_0 a0_1)
theorem spec_l01Ok.lim (a0_0 : Int) (a0_1 : Int) : IsLim (fun k => spec_l01Ok.f k a0_0 a0_1) (spec_l01Ok.d a0_0 a0_1) := lim_spec (fun k => spec_l01Ok.mono a0_0 a0_1 k)
theorem spec_l01Ok.d_eq (a0_0 : Int) (a0_1 : Int) : spec_l01Ok.d a0_0 a0_1 = (spec_l00In.f a0_0 1 5).bind fun t109 => (if t109 = true then ((spec_IsIrreducible.d a0_1).bind fun t110 => (if t110 = true then ((spec_l01Degree.d a0_1).bind fun t111 => (some (t111 == a0_0))) else (some false))) else (some false)) := by
  refine IsLim.unique (spec_l01Ok.lim _ _) ?_
  unfold spec_l01Ok.f
  repeat' (first | exact IsLim.const _ | refine IsLim.ite ?_ ?_ | refine IsLim.bind ?_ (fun _ => ?_) | exact spec_IsIrreducible.lim .. | exact spec_l01Degree.lim ..)
noncomputable def spec_l03Elements.l0d (x1 : List Int) (x5 : Int) (x114000 : Int) (x114001 : Int) : Option (Bool) := lim (fun k => spec_l03Elements.l0 k x1 x5 x114000 x114001)
theorem spec_l03Elements.l0lim (x1 : List Int) (x5 : Int) (x114000 : Int) (x114001 : Int) : IsLim (fun k => spec_l03Elements.l0 k x1 x5 x114000 x114001) (spec_l03Elements.l0d x1 x5 x114000 x114001) := lim_spec (fun k => (spec_l03Elements.mono_l k) x1 x5 x114000 x114001)
theorem spec_l03Elements.l0d_eq (x1 : List Int) (x5 : Int) (x114000 : Int) (x114001 : Int) : spec_l03Elements.l0d x1 x5 x114000 x114001 = if x5 < (x1.length : Int) then (if 0 ≤ x5 then ((spec_l01Size.f x114000 x114001).bind fun t115 => ((spec_l00In.f (rd x1 x5) 0 (wrap64 (t115 - 1))).bind fun t116 => (if t116 = true then (spec_l03Elements.l0d x1 (wrap64 (x5 + 1)) x114000 x114001) else (some false)))) else (none)) else (some true) := by
  refine IsLim.unique (spec_l03Elements.l0lim _ _ _ _) ?_
  refine IsLim.shift (by rfl) ?_
  simp only [spec_l03Elements.l0]
  repeat' (first | exact IsLim.const _ | refine IsLim.ite ?_ ?_ | refine IsLim.bind ?_ (fun _ => ?_) | exact spec_l03Elements.l0lim ..)
noncomputable def spec_l03Elements.d (a0_0 : Int) (a0_1 : Int) (l1 : List Int) : Option (Bool) := lim (fun k => spec_l03Elements.f k a0_0 a0_1 l1)
theorem spec_l03Elements.lim (a0_0 : Int) (a0_1 : Int) (l1 : List Int) : IsLim (fun k => spec_l03Elements.f k a0_0 a0_1 l1) (spec_l03Elements.d a0_0 a0_1 l1) := lim_spec (fun k => spec_l03Elements.mono a0_0 a0_1 l1 k)
theorem spec_l03Elements.d_eq (a0_0 : Int) (a0_1 : Int) (l1 : List Int) : spec_l03Elements.d a0_0 a0_1 l1 = spec_l03Elements.l0d l1 0 a0_0 a0_1 := by
  refine IsLim.unique (spec_l03Elements.lim _ _ _) ?_
  unfold spec_l03Elements.f
  repeat' (first | exact IsLim.const _ | refine IsLim.ite ?_ ?_ | refine IsLim.bind ?_ (fun _ => ?_) | exact spec_l03Elements.l0lim ..)
noncomputable def spec_l03Ok.d (a0_0 : Int) (a0_1 : Int) (l1 : List Int) : Option (Bool) := lim (fun k => spec_l03Ok.f k a0_0 a0_1 l1)
theorem spec_l03Ok.lim (a0_0 : Int) (a0_1 : Int) (l1 : List Int) : IsLim (fun k => spec_l03Ok.f k a0_0 a0_1 l1) (spec_l03Ok.d a0_0 a0_1 l1) := lim_spec (fun k => spec_l03Ok.mono a0_0 a0_1 l1 k)
theorem spec_l03Ok.d_eq (a0_0 : Int) (a0_1 : Int) (l1 : List Int) : spec_l03Ok.d a0_0 a0_1 l1 = if (l1.length : Int) ≤ 12 then ((spec_l03Elements.d a0_0 a0_1 l1).bind fun t118 => (if t118 = true then (if (l1.length : Int) = 0 then (some true) else (if 0 ≤ (wrap64 ((l1.length : Int) - 1)) then (if (wrap64 ((l1.length : Int) - 1)) < (l1.length : Int) then (some ((rd l1 (wrap64 ((l1.length : Int) - 1))) != 0)) else (none)) else (none))) else (some false))) else (some false) := by
  refine IsLim.unique (spec_l03Ok.lim _ _ _) ?_
  unfold spec_l03Ok.f
  repeat' (first | exact IsLim.const _ | refine IsLim.ite ?_ ?_ | refine IsLim.bind ?_ (fun _ => ?_) | exact spec_l03Elements.lim ..)
noncomputable def spec_ValidLinear.d (a0_0 : Int) (a0_1 : Int) (l1 : List Int) : Option (Bool) := lim (fun k => spec_ValidLinear.f k a0_0 a0_1 l1)
theorem spec_ValidLinear.lim (a0_0 : Int) (a0_1 : Int) (l1 : List Int) : IsLim (fun k => spec_ValidLinear.f k a0_0 a0_1 l1) (spec_ValidLinear.d a0_0 a0_1 l1) := lim_spec (fun k => spec_ValidLinear.mono a0_0 a0_1 l1 k)
theorem spec_ValidLinear.d_eq (a0_0 : Int) (a0_1 : Int) (l1 : List Int) : spec_ValidLinear.d a0_0 a0_1 l1 = (spec_l01Ok.d a0_0 a0_1).bind fun t121 => (if t121 = true then ((spec_l03Ok.d a0_0 a0_1 l1).bind fun t122 => (some t122)) else (some false)) := by
  refine IsLim.unique (spec_ValidLinear.lim _ _ _) ?_
  unfold spec_ValidLinear.f
  repeat' (first | exact IsLim.const _ | refine IsLim.ite ?_ ?_ | refine IsLim.bind ?_ (fun _ => ?_) | exact spec_l01Ok.lim .. | exact spec_l03Ok.lim ..)
noncomputable def spec_l03Trim.l0d (x0 : List Int) (x3 : Int) : Option (List Int) := lim (fun k => spec_l03Trim.l0 k x0 x3)
theorem spec_l03Trim.l0lim (x0 : List Int) (x3 : Int) : IsLim (fun k => spec_l03Trim.l0 k x0 x3) (spec_l03Trim.l0d x0 x3) := lim_spec (fun k => (spec_l03Trim.mono_l k) x0 x3)
theorem spec_l03Trim.l0d_eq (x0 : List Int) (x3 : Int) : spec_l03Trim.l0d x0 x3 = if x3 > 0 then (if 0 ≤ (wrap64 (x3 - 1)) then (if (wrap64 (x3 - 1)) < (x0.length : Int) then (if (rd x0 (wrap64 (x3 - 1))) = 0 then (spec_l03Trim.l0d x0 (wrap64 (x3 - 1))) else (if 0 ≤ x3 then (if x3 ≤ (x0.length : Int) then ((spec_l00Own.f (x0.take (x3 : Int).toNat)).bind fun t147 => (some t147)) else (none)) else (none))) else (none)) else (none)) else (if 0 ≤ x3 then (if x3 ≤ (x0.length : Int) then ((spec_l00Own.f (x0.take (x3 : Int).toNat)).bind fun t151 => (some t151)) else (none)) else (none)) := by
  refine IsLim.unique (spec_l03Trim.l0lim _ _) ?_
  refine IsLim.shift (by rfl) ?_
  simp only [spec_l03Trim.l0]
  repeat' (first | exact IsLim.const _ | refine IsLim.ite ?_ ?_ | refine IsLim.bind ?_ (fun _ => ?_) | exact spec_l03Trim.l0lim ..)
noncomputable def spec_l03Trim.d (l0 : List Int) : Option (List Int) := lim (fun k => spec_l03Trim.f k l0)
theorem spec_l03Trim.lim (l0 : List Int) : IsLim (fun k => spec_l03Trim.f k l0) (spec_l03Trim.d l0) := lim_spec (fun k => spec_l03Trim.mono l0 k)
theorem spec_l03Trim.d_eq (l0 : List Int) : spec_l03Trim.d l0 = spec_l03Trim.l0d l0 (l0.length : Int) := by
  refine IsLim.unique (spec_l03Trim.lim _) ?_
  unfold spec_l03Trim.f
  repeat' (first | exact IsLim.const _ | refine IsLim.ite ?_ ?_ | refine IsLim.bind ?_ (fun _ => ?_) | exact spec_l03Trim.l0lim ..)
noncomputable def spec_l01Fields.d (a0 : Int) : Option ((List (S27))) := lim (fun k => spec_l01Fields.f k a0)
theorem spec_l01Fields.lim (a0 : Int) : IsLim (fun k => spec_l01Fields.f k a0) (spec_l01Fields.d a0) := lim_spec (fun k => spec_l01Fields.mono a0 k)
noncomputable def spec_l01Drawn.d (s0_0 : List Int) (s0_1 : Int) (s0_2 : Int) : Option (Int × Int × Int × Int) := lim (fun k => spec_l01Drawn.f k s0_0 s0_1 s0_2)
theorem spec_l01Drawn.lim (s0_0 : List Int) (s0_1 : Int) (s0_2 : Int) : IsLim (fun k => spec_l01Drawn.f k s0_0 s0_1 s0_2) (spec_l01Drawn.d s0_0 s0_1 s0_2) := lim_spec (fun k => spec_l01Drawn.mono s0_0 s0_1 s0_2 k)
theorem spec_l01Drawn.d_eq (s0_0 : List Int) (s0_1 : Int) (s0_2 : Int) : spec_l01Drawn.d s0_0 s0_1 s0_2 = (spec_l00Src_among.f s0_0 s0_1 s0_2 (([1, 2, 3, 3, 4, 4, 5] : List Int))).bind fun bt579 => ((spec_l01Fields.d bt579.1).bind fun t582 => ((spec_l00Src_pick.f s0_0 bt579.2.1 bt579.2.2 (t582.length : Int)).bind fun bt585 => (if 0 ≤ bt585.1 then (if bt585.1 < (t582.length : Int) then (some ((rd_T27 t582 bt585.1).f0, (rd_T27 t582 bt585.1).f1, bt585.2.1, bt585.2.2)) else (none)) else (none)))) := by
  refine IsLim.unique (spec_l01Drawn.lim _ _ _) ?_
  unfold spec_l01Drawn.f
  repeat' (first | exact IsLim.const _ | refine IsLim.ite ?_ ?_ | refine IsLim.bind ?_ (fun _ => ?_) | exact spec_l01Fields.lim ..)
noncomputable def spec_A2Field.d (l0 : List Int) : Option (Int × Int) := lim (fun k => spec_A2Field.f k l0)
theorem spec_A2Field.lim (l0 : List Int) : IsLim (fun k => spec_A2Field.f k l0) (spec_A2Field.d l0) := lim_spec (fun k => spec_A2Field.mono l0 k)
theorem spec_A2Field.d_eq (l0 : List Int) : spec_A2Field.d l0 = (spec_l00From.f l0).bind fun bt591 => ((spec_l01Drawn.d bt591.1 bt591.2.1 bt591.2.2).bind fun bt595 => (some (bt595.1, bt595.2.1))) := by
  refine IsLim.unique (spec_A2Field.lim _) ?_
  unfold spec_A2Field.f
  repeat' (first | exact IsLim.const _ | refine IsLim.ite ?_ ?_ | refine IsLim.bind ?_ (fun _ => ?_) | exact spec_l01Drawn.lim ..)
noncomputable def spec_l03Drawn.l0d (x7 : List Int) (x8 : Int) (x1000 : List Int) (x1001 : Int) (x1002 : Int) (x600000 : Int) (x600001 : Int) : Option (List Int × Int × Int) := lim (fun k => spec_l03Drawn.l0 k x7 x8 x1000 x1001 x1002 x600000 x600001)
theorem spec_l03Drawn.l0lim (x7 : List Int) (x8 : Int) (x1000 : List Int) (x1001 : Int) (x1002 : Int) (x600000 : Int) (x600001 : Int) : IsLim (fun k => spec_l03Drawn.l0 k x7 x8 x1000 x1001 x1002 x600000 x600001) (spec_l03Drawn.l0d x7 x8 x1000 x1001 x1002 x600000 x600001) := lim_spec (fun k => (spec_l03Drawn.mono_l k) x7 x8 x1000 x1001 x1002 x600000 x600001)
theorem spec_l03Drawn.l0d_eq (x7 : List Int) (x8 : Int) (x1000 : List Int) (x1001 : Int) (x1002 : Int) (x600000 : Int) (x600001 : Int) : spec_l03Drawn.l0d x7 x8 x1000 x1001 x1002 x600000 x600001 = if x8 > 0 then ((spec_l01Size.f x600000 x600001).bind fun t606 => ((spec_l00Src_pick.f x1000 x1001 x1002 t606).bind fun bt607 => (if x7.length < 17592186044416 then (spec_l03Drawn.l0d (x7 ++ [bt607.1]) (wrap64 (x8 - 1)) x1000 bt607.2.1 bt607.2.2 x600000 x600001) else (none)))) else ((spec_l03Trim.d x7).bind fun t613 => (some (t613, x1001, x1002))) := by
  refine IsLim.unique (spec_l03Drawn.l0lim _ _ _ _ _ _ _) ?_
  refine IsLim.shift (by rfl) ?_
  simp only [spec_l03Drawn.l0]
  repeat' (first | exact IsLim.const _ | refine IsLim.ite ?_ ?_ | refine IsLim.bind ?_ (fun _ => ?_) | exact spec_l03Trim.lim .. | exact spec_l03Drawn.l0lim ..)
noncomputable def spec_l03Drawn.d (s0_0 : List Int) (s0_1 : Int) (s0_2 : Int) (a1_0 : Int) (a1_1 : Int) (a2 : Int) : Option (List Int × Int × Int) := lim (fun k => spec_l03Drawn.f k s0_0 s0_1 s0_2 a1_0 a1_1 a2)
theorem spec_l03Drawn.lim (s0_0 : List Int) (s0_1 : Int) (s0_2 : Int) (a1_0 : Int) (a1_1 : Int) (a2 : Int) : IsLim (fun k => spec_l03Drawn.f k s0_0 s0_1 s0_2 a1_0 a1_1 a2) (spec_l03Drawn.d s0_0 s0_1 s0_2 a1_0 a1_1 a2) := lim_spec (fun k => spec_l03Drawn.mono s0_0 s0_1 s0_2 a1_0 a1_1 a2 k)
theorem spec_l03Drawn.d_eq (s0_0 : List Int) (s0_1 : Int) (s0_2 : Int) (a1_0 : Int) (a1_1 : Int) (a2 : Int) : spec_l03Drawn.d s0_0 s0_1 s0_2 a1_0 a1_1 a2 = (spec_l00Src_pick.f s0_0 s0_1 s0_2 (wrap64 (a2 + 1))).bind fun bt603 => (spec_l03Drawn.l0d (([] : List Int)) bt603.1 s0_0 bt603.2.1 bt603.2.2 a1_0 a1_1) := by
  refine IsLim.unique (spec_l03Drawn.lim _ _ _ _ _ _) ?_
  unfold spec_l03Drawn.f
  repeat' (first | exact IsLim.const _ | refine IsLim.ite ?_ ?_ | refine IsLim.bind ?_ (fun _ => ?_) | exact spec_l03Drawn.l0lim ..)
noncomputable def spec_A2Linear.d (l0 : List Int) (a1_0 : Int) (a1_1 : Int) (a2 : Int) : Option (List Int) := lim (fun k => spec_A2Linear.f k l0 a1_0 a1_1 a2)
theorem spec_A2Linear.lim (l0 : List Int) (a1_0 : Int) (a1_1 : Int) (a2 : Int) : IsLim (fun k => spec_A2Linear.f k l0 a1_0 a1_1 a2) (spec_A2Linear.d l0 a1_0 a1_1 a2) := lim_spec (fun k => spec_A2Linear.mono l0 a1_0 a1_1 a2 k)
theorem spec_A2Linear.d_eq (l0 : List Int) (a1_0 : Int) (a1_1 : Int) (a2 : Int) : spec_A2Linear.d l0 a1_0 a1_1 a2 = (spec_l00From.f l0).bind fun bt617 => ((spec_l03Drawn.d bt617.1 bt617.2.1 bt617.2.2 a1_0 a1_1 a2).bind fun bt621 => (some bt621.1)) := by
  refine IsLim.unique (spec_A2Linear.lim _ _ _ _) ?_
  unfold spec_A2Linear.f
  repeat' (first | exact IsLim.const _ | refine IsLim.ite ?_ ?_ | refine IsLim.bind ?_ (fun _ => ?_) | exact spec_l03Drawn.lim ..)
noncomputable def impl_degreeOf.l0d (x0 : Int) (x3 : Int) : Option (Int) := lim (fun k => impl_degreeOf.l0 k x0 x3)
theorem impl_degreeOf.l0lim (x0 : Int) (x3 : Int) : IsLim (fun k => impl_degreeOf.l0 k x0 x3) (impl_degreeOf.l0d x0 x3) := lim_spec (fun k => (impl_degreeOf.mono_l k) x0 x3)
theorem impl_degreeOf.l0d_eq (x0 : Int) (x3 : Int) : impl_degreeOf.l0d x0 x3 = if x0 > 0 then (impl_degreeOf.l0d (x0 / 2) (wrap64 (x3 + 1))) else (some x3) := by
  refine IsLim.unique (impl_degreeOf.l0lim _ _) ?_
  refine IsLim.shift (by rfl) ?_
  simp only [impl_degreeOf.l0]
  repeat' (first | exact IsLim.const _ | refine IsLim.ite ?_ ?_ | refine IsLim.bind ?_ (fun _ => ?_) | exact impl_degreeOf.l0lim ..)
noncomputable def impl_degreeOf.d (a0 : Int) : Option (Int) := lim (fun k => impl_degreeOf.f k a0)
theorem impl_degreeOf.lim (a0 : Int) : IsLim (fun k => impl_degreeOf.f k a0) (impl_degreeOf.d a0) := lim_spec (fun k => impl_degreeOf.mono a0 k)
theorem impl_degreeOf.d_eq (a0 : Int) : impl_degreeOf.d a0 = impl_degreeOf.l0d a0 (-1) := by
  refine IsLim.unique (impl_degreeOf.lim _) ?_
  unfold impl_degreeOf.f
  repeat' (first | exact IsLim.const _ | refine IsLim.ite ?_ ?_ | refine IsLim.bind ?_ (fun _ => ?_) | exact impl_degreeOf.l0lim ..)
noncomputable def impl_restOf.l0d (x0 : Int) (x1 : Int) (x5 : Int) : Option (Int) := lim (fun k => impl_restOf.l0 k x0 x1 x5)
theorem impl_restOf.l0lim (x0 : Int) (x1 : Int) (x5 : Int) : IsLim (fun k => impl_restOf.l0 k x0 x1 x5) (impl_restOf.l0d x0 x1 x5) := lim_spec (fun k => (impl_restOf.mono_l k) x0 x1 x5)
theorem impl_restOf.l0d_eq (x0 : Int) (x1 : Int) (x5 : Int) : impl_restOf.l0d x0 x1 x5 = (impl_degreeOf.d x0).bind fun t229 => (if t229 ≥ x5 then ((impl_degreeOf.d x0).bind fun t230 => (if 0 ≤ (wrap64 (t230 - x5)) then (impl_restOf.l0d (Go.bits .xor .i64 x0 (shl .i64 x1 (wrap64 (t230 - x5)))) x1 x5) else (none))) else (some x0)) := by
  refine IsLim.unique (impl_restOf.l0lim _ _ _) ?_
  refine IsLim.shift (by rfl) ?_
  simp only [impl_restOf.l0]
  repeat' (first | exact IsLim.const _ | refine IsLim.ite ?_ ?_ | refine IsLim.bind ?_ (fun _ => ?_) | exact impl_degreeOf.lim .. | exact impl_restOf.l0lim ..)
noncomputable def impl_restOf.d (a0 : Int) (a1 : Int) : Option (Int) := lim (fun k => impl_restOf.f k a0 a1)
theorem impl_restOf.lim (a0 : Int) (a1 : Int) : IsLim (fun k => impl_restOf.f k a0 a1) (impl_restOf.d a0 a1) := lim_spec (fun k => impl_restOf.mono a0 a1 k)
theorem impl_restOf.d_eq (a0 : Int) (a1 : Int) : impl_restOf.d a0 a1 = (impl_degreeOf.d a1).bind fun t228 => (impl_restOf.l0d a0 a1 t228) := by
  refine IsLim.unique (impl_restOf.lim _ _) ?_
  unfold impl_restOf.f
  repeat' (first | exact IsLim.const _ | refine IsLim.ite ?_ ?_ | refine IsLim.bind ?_ (fun _ => ?_) | exact impl_degreeOf.lim .. | exact impl_restOf.l0lim ..)
noncomputable def impl_IsIrreducible.j0d (x0 : Int) (x9 : Bool) : Option (Bool) := lim (fun k => impl_IsIrreducible.j0 k x0 x9)
theorem impl_IsIrreducible.j0lim (x0 : Int) (x9 : Bool) : IsLim (fun k => impl_IsIrreducible.j0 k x0 x9) (impl_IsIrreducible.j0d x0 x9) := lim_spec (fun k => (impl_IsIrreducible.mono_l k).1 x0 x9)
noncomputable def impl_IsIrreducible.l0d (x0 : Int) (x3 : Int) : Option (Bool) := lim (fun k => impl_IsIrreducible.l0 k x0 x3)
theorem impl_IsIrreducible.l0lim (x0 : Int) (x3 : Int) : IsLim (fun k => impl_IsIrreducible.l0 k x0 x3) (impl_IsIrreducible.l0d x0 x3) := lim_spec (fun k => (impl_IsIrreducible.mono_l k).2 x0 x3)
theorem impl_IsIrreducible.j0d_eq (x0 : Int) (x9 : Bool) : impl_IsIrreducible.j0d x0 x9 = if x9 = true then (some false) else (impl_IsIrreducible.l0d x0 2) := by
  refine IsLim.unique (impl_IsIrreducible.j0lim _ _) ?_
  refine IsLim.shift (by rfl) ?_
  simp only [impl_IsIrreducible.j0]
  repeat' (first | exact IsLim.const _ | refine IsLim.ite ?_ ?_ | refine IsLim.bind ?_ (fun _ => ?_) | exact impl_IsIrreducible.l0lim ..)
noncomputable def impl_IsIrreducible.d (a0 : Int) : Option (Bool) := lim (fun k => impl_IsIrreducible.f k a0)
theorem impl_IsIrreducible.lim (a0 : Int) : IsLim (fun k => impl_IsIrreducible.f k a0) (impl_IsIrreducible.d a0) := lim_spec (fun k => impl_IsIrreducible.mono a0 k)
theorem impl_IsIrreducible.d_eq (a0 : Int) : impl_IsIrreducible.d a0 = if a0 < 2 then (impl_IsIrreducible.j0d a0 true) else (impl_IsIrreducible.j0d a0 (decide (a0 ≥ 64))) := by
  refine IsLim.unique (impl_IsIrreducible.lim _) ?_
  unfold impl_IsIrreducible.f
  repeat' (first | exact IsLim.const _ | refine IsLim.ite ?_ ?_ | refine IsLim.bind ?_ (fun _ => ?_) | exact impl_IsIrreducible.j0lim ..)
noncomputable def impl_ValidField.d (a0_0 : Int) (a0_1 : Int) : Option (Bool) := lim (fun k => impl_ValidField.f k a0_0 a0_1)
theorem impl_ValidField.lim (a0_0 : Int) (a0_1 : Int) : IsLim (fun k => impl_ValidField.f k a0_0 a0_1) (impl_ValidField.d a0_0 a0_1) := lim_spec (fun k => impl_ValidField.mono a0_0 a0_1 k)
theorem impl_ValidField.d_eq (a0_0 : Int) (a0_1 : Int) : impl_ValidField.d a0_0 a0_1 = (impl_within.f a0_0 1 5).bind fun t235 => (if t235 = true then ((impl_IsIrreducible.d a0_1).bind fun t236 => (if t236 = true then ((impl_degreeOf.d a0_1).bind fun t237 => (some (t237 == a0_0))) else (some false))) else (some false)) := by
  refine IsLim.unique (impl_ValidField.lim _ _) ?_
  unfold impl_ValidField.f
  repeat' (first | exact IsLim.const _ | refine IsLim.ite ?_ ?_ | refine IsLim.bind ?_ (fun _ => ?_) | exact impl_IsIrreducible.lim .. | exact impl_degreeOf.lim ..)
noncomputable def slices_IndexFunc_int64_int64_AT_impl_Field_has_1.l0d (x0 : List Int) (x7 : Int) (x8 : Int) (x49000 : Int) (x49001 : Int) : Option (Int) := lim (fun k => slices_IndexFunc_int64_int64_AT_impl_Field_has_1.l0 k x0 x7 x8 x49000 x49001)
theorem slices_IndexFunc_int64_int64_AT_impl_Field_has_1.l0lim (x0 : List Int) (x7 : Int) (x8 : Int) (x49000 : Int) (x49001 : Int) : IsLim (fun k => slices_IndexFunc_int64_int64_AT_impl_Field_has_1.l0 k x0 x7 x8 x49000 x49001) (slices_IndexFunc_int64_int64_AT_impl_Field_has_1.l0d x0 x7 x8 x49000 x49001) := lim_spec (fun k => (slices_IndexFunc_int64_int64_AT_impl_Field_has_1.mono_l k) x0 x7 x8 x49000 x49001)
theorem slices_IndexFunc_int64_int64_AT_impl_Field_has_1.l0d_eq (x0 : List Int) (x7 : Int) (x8 : Int) (x49000 : Int) (x49001 : Int) : slices_IndexFunc_int64_int64_AT_impl_Field_has_1.l0d x0 x7 x8 x49000 x49001 = if x8 < x7 then (if 0 ≤ x8 then (if x8 < (x0.length : Int) then ((impl_Field_has_1.f (rd x0 x8) x49000 x49001).bind fun t242 => (if t242 = true then (some x8) else (slices_IndexFunc_int64_int64_AT_impl_Field_has_1.l0d x0 x7 (wrap64 (x8 + 1)) x49000 x49001))) else (none)) else (none)) else (some (-1)) := by
  refine IsLim.unique (slices_IndexFunc_int64_int64_AT_impl_Field_has_1.l0lim _ _ _ _ _) ?_
  refine IsLim.shift (by rfl) ?_
  simp only [slices_IndexFunc_int64_int64_AT_impl_Field_has_1.l0]
  repeat' (first | exact IsLim.const _ | refine IsLim.ite ?_ ?_ | refine IsLim.bind ?_ (fun _ => ?_) | exact slices_IndexFunc_int64_int64_AT_impl_Field_has_1.l0lim ..)
noncomputable def slices_IndexFunc_int64_int64_AT_impl_Field_has_1.d (l0 : List Int) (a1_0 : Int) (a1_1 : Int) : Option (Int) := lim (fun k => slices_IndexFunc_int64_int64_AT_impl_Field_has_1.f k l0 a1_0 a1_1)
theorem slices_IndexFunc_int64_int64_AT_impl_Field_has_1.lim (l0 : List Int) (a1_0 : Int) (a1_1 : Int) : IsLim (fun k => slices_IndexFunc_int64_int64_AT_impl_Field_has_1.f k l0 a1_0 a1_1) (slices_IndexFunc_int64_int64_AT_impl_Field_has_1.d l0 a1_0 a1_1) := lim_spec (fun k => slices_IndexFunc_int64_int64_AT_impl_Field_has_1.mono l0 a1_0 a1_1 k)
theorem slices_IndexFunc_int64_int64_AT_impl_Field_has_1.d_eq (l0 : List Int) (a1_0 : Int) (a1_1 : Int) : slices_IndexFunc_int64_int64_AT_impl_Field_has_1.d l0 a1_0 a1_1 = slices_IndexFunc_int64_int64_AT_impl_Field_has_1.l0d l0 (l0.length : Int) 0 a1_0 a1_1 := by
  refine IsLim.unique (slices_IndexFunc_int64_int64_AT_impl_Field_has_1.lim _ _ _) ?_
  unfold slices_IndexFunc_int64_int64_AT_impl_Field_has_1.f
  repeat' (first | exact IsLim.const _ | refine IsLim.ite ?_ ?_ | refine IsLim.bind ?_ (fun _ => ?_) | exact slices_IndexFunc_int64_int64_AT_impl_Field_has_1.l0lim ..)
noncomputable def slices_ContainsFunc_int64_int64_AT_impl_Field_has_1.d (l0 : List Int) (a1_0 : Int) (a1_1 : Int) : Option (Bool) := lim (fun k => slices_ContainsFunc_int64_int64_AT_impl_Field_has_1.f k l0 a1_0 a1_1)
theorem slices_ContainsFunc_int64_int64_AT_impl_Field_has_1.lim (l0 : List Int) (a1_0 : Int) (a1_1 : Int) : IsLim (fun k => slices_ContainsFunc_int64_int64_AT_impl_Field_has_1.f k l0 a1_0 a1_1) (slices_ContainsFunc_int64_int64_AT_impl_Field_has_1.d l0 a1_0 a1_1) := lim_spec (fun k => slices_ContainsFunc_int64_int64_AT_impl_Field_has_1.mono l0 a1_0 a1_1 k)
theorem slices_ContainsFunc_int64_int64_AT_impl_Field_has_1.d_eq (l0 : List Int) (a1_0 : Int) (a1_1 : Int) : slices_ContainsFunc_int64_int64_AT_impl_Field_has_1.d l0 a1_0 a1_1 = (slices_IndexFunc_int64_int64_AT_impl_Field_has_1.d l0 a1_0 a1_1).bind fun t243 => (some (decide (t243 ≥ 0))) := by
  refine IsLim.unique (slices_ContainsFunc_int64_int64_AT_impl_Field_has_1.lim _ _ _) ?_
  unfold slices_ContainsFunc_int64_int64_AT_impl_Field_has_1.f
  repeat' (first | exact IsLim.const _ | refine IsLim.ite ?_ ?_ | refine IsLim.bind ?_ (fun _ => ?_) | exact slices_IndexFunc_int64_int64_AT_impl_Field_has_1.lim ..)
noncomputable def impl_Field_has.d (a0_0 : Int) (a0_1 : Int) (l1 : List Int) : Option (Bool) := lim (fun k => impl_Field_has.f k a0_0 a0_1 l1)
theorem impl_Field_has.lim (a0_0 : Int) (a0_1 : Int) (l1 : List Int) : IsLim (fun k => impl_Field_has.f k a0_0 a0_1 l1) (impl_Field_has.d a0_0 a0_1 l1) := lim_spec (fun k => impl_Field_has.mono a0_0 a0_1 l1 k)
theorem impl_Field_has.d_eq (a0_0 : Int) (a0_1 : Int) (l1 : List Int) : impl_Field_has.d a0_0 a0_1 l1 = (slices_ContainsFunc_int64_int64_AT_impl_Field_has_1.d l1 a0_0 a0_1).bind fun t245 => (some (!t245)) := by
  refine IsLim.unique (impl_Field_has.lim _ _ _) ?_
  unfold impl_Field_has.f
  repeat' (first | exact IsLim.const _ | refine IsLim.ite ?_ ?_ | refine IsLim.bind ?_ (fun _ => ?_) | exact slices_ContainsFunc_int64_int64_AT_impl_Field_has_1.lim ..)
noncomputable def impl_Field_isLinear.d (a0_0 : Int) (a0_1 : Int) (l1 : List Int) : Option (Bool) := lim (fun k => impl_Field_isLinear.f k a0_0 a0_1 l1)
theorem impl_Field_isLinear.lim (a0_0 : Int) (a0_1 : Int) (l1 : List Int) : IsLim (fun k => impl_Field_isLinear.f k a0_0 a0_1 l1) (impl_Field_isLinear.d a0_0 a0_1 l1) := lim_spec (fun k => impl_Field_isLinear.mono a0_0 a0_1 l1 k)
theorem impl_Field_isLinear.d_eq (a0_0 : Int) (a0_1 : Int) (l1 : List Int) : impl_Field_isLinear.d a0_0 a0_1 l1 = if (l1.length : Int) ≤ 12 then ((impl_Field_has.d a0_0 a0_1 l1).bind fun t247 => (if t247 = true then (if (l1.length : Int) = 0 then (some true) else (if 0 ≤ (wrap64 ((l1.length : Int) - 1)) then (if (wrap64 ((l1.length : Int) - 1)) < (l1.length : Int) then (some ((rd l1 (wrap64 ((l1.length : Int) - 1))) != 0)) else (none)) else (none))) else (some false))) else (some false) := by
  refine IsLim.unique (impl_Field_isLinear.lim _ _ _) ?_
  unfold impl_Field_isLinear.f
  repeat' (first | exact IsLim.const _ | refine IsLim.ite ?_ ?_ | refine IsLim.bind ?_ (fun _ => ?_) | exact impl_Field_has.lim ..)
noncomputable def impl_Field_linearCode_1.d (l0 : List Int) (a1_0 : Int) (a1_1 : Int) : Option (Bool) := lim (fun k => impl_Field_linearCode_1.f k l0 a1_0 a1_1)
theorem impl_Field_linearCode_1.lim (l0 : List Int) (a1_0 : Int) (a1_1 : Int) : IsLim (fun k => impl_Field_linearCode_1.f k l0 a1_0 a1_1) (impl_Field_linearCode_1.d l0 a1_0 a1_1) := lim_spec (fun k => impl_Field_linearCode_1.mono l0 a1_0 a1_1 k)
theorem impl_Field_linearCode_1.d_eq (l0 : List Int) (a1_0 : Int) (a1_1 : Int) : impl_Field_linearCode_1.d l0 a1_0 a1_1 = (impl_Field_isLinear.d a1_0 a1_1 l0).bind fun t249 => (some (!t249)) := by
  refine IsLim.unique (impl_Field_linearCode_1.lim _ _ _) ?_
  unfold impl_Field_linearCode_1.f
  repeat' (first | exact IsLim.const _ | refine IsLim.ite ?_ ?_ | refine IsLim.bind ?_ (fun _ => ?_) | exact impl_Field_isLinear.lim ..)
noncomputable def slices_IndexFunc_int64_int64_AT_impl_Field_linearCode_1.l0d (x0 : List (List Int)) (x7 : Int) (x8 : Int) (x49000 : Int) (x49001 : Int) : Option (Int) := lim (fun k => slices_IndexFunc_int64_int64_AT_impl_Field_linearCode_1.l0 k x0 x7 x8 x49000 x49001)
theorem slices_IndexFunc_int64_int64_AT_impl_Field_linearCode_1.l0lim (x0 : List (List Int)) (x7 : Int) (x8 : Int) (x49000 : Int) (x49001 : Int) : IsLim (fun k => slices_IndexFunc_int64_int64_AT_impl_Field_linearCode_1.l0 k x0 x7 x8 x49000 x49001) (slices_IndexFunc_int64_int64_AT_impl_Field_linearCode_1.l0d x0 x7 x8 x49000 x49001) := lim_spec (fun k => (slices_IndexFunc_int64_int64_AT_impl_Field_linearCode_1.mono_l k) x0 x7 x8 x49000 x49001)
theorem slices_IndexFunc_int64_int64_AT_impl_Field_linearCode_1.l0d_eq (x0 : List (List Int)) (x7 : Int) (x8 : Int) (x49000 : Int) (x49001 : Int) : slices_IndexFunc_int64_int64_AT_impl_Field_linearCode_1.l0d x0 x7 x8 x49000 x49001 = if x8 < x7 then (if 0 ≤ x8 then (if x8 < (x0.length : Int) then ((impl_Field_linearCode_1.d (rd_L1 x0 x8) x49000 x49001).bind fun t251 => (if t251 = true then (some x8) else (slices_IndexFunc_int64_int64_AT_impl_Field_linearCode_1.l0d x0 x7 (wrap64 (x8 + 1)) x49000 x49001))) else (none)) else (none)) else (some (-1)) := by
  refine IsLim.unique (slices_IndexFunc_int64_int64_AT_impl_Field_linearCode_1.l0lim _ _ _ _ _) ?_
  refine IsLim.shift (by rfl) ?_
  simp only [slices_IndexFunc_int64_int64_AT_impl_Field_linearCode_1.l0]
  repeat' (first | exact IsLim.const _ | refine IsLim.ite ?_ ?_ | refine IsLim.bind ?_ (fun _ => ?_) | exact impl_Field_linearCode_1.lim .. | exact slices_IndexFunc_int64_int64_AT_impl_Field_linearCode_1.l0lim ..)
noncomputable def slices_IndexFunc_int64_int64_AT_impl_Field_linearCode_1.d (l0 : List (List Int)) (a1_0 : Int) (a1_1 : Int) : Option (Int) := lim (fun k => slices_IndexFunc_int64_int64_AT_impl_Field_linearCode_1.f k l0 a1_0 a1_1)
theorem slices_IndexFunc_int64_int64_AT_impl_Field_linearCode_1.lim (l0 : List (List Int)) (a1_0 : Int) (a1_1 : Int) : IsLim (fun k => slices_IndexFunc_int64_int64_AT_impl_Field_linearCode_1.f k l0 a1_0 a1_1) (slices_IndexFunc_int64_int64_AT_impl_Field_linearCode_1.d l0 a1_0 a1_1) := lim_spec (fun k => slices_IndexFunc_int64_int64_AT_impl_Field_linearCode_1.mono l0 a1_0 a1_1 k)
theorem slices_IndexFunc_int64_int64_AT_impl_Field_linearCode_1.d_eq (l0 : List (List Int)) (a1_0 : Int) (a1_1 : Int) : slices_IndexFunc_int64_int64_AT_impl_Field_linearCode_1.d l0 a1_0 a1_1 = slices_IndexFunc_int64_int64_AT_impl_Field_linearCode_1.l0d l0 (l0.length : Int) 0 a1_0 a1_1 := by
  refine IsLim.unique (slices_IndexFunc_int64_int64_AT_impl_Field_linearCode_1.lim _ _ _) ?_
  unfold slices_IndexFunc_int64_int64_AT_impl_Field_linearCode_1.f
  repeat' (first | exact IsLim.const _ | refine IsLim.ite ?_ ?_ | refine IsLim.bind ?_ (fun _ => ?_) | exact slices_IndexFunc_int64_int64_AT_impl_Field_linearCode_1.l0lim ..)
noncomputable def slices_ContainsFunc_int64_int64_AT_impl_Field_linearCode_1.d (l0 : List (List Int)) (a1_0 : Int) (a1_1 : Int) : Option (Bool) := lim (fun k => slices_ContainsFunc_int64_int64_AT_impl_Field_linearCode_1.f k l0 a1_0 a1_1)
theorem slices_ContainsFunc_int64_int64_AT_impl_Field_linearCode_1.lim (l0 : List (List Int)) (a1_0 : Int) (a1_1 : Int) : IsLim (fun k => slices_ContainsFunc_int64_int64_AT_impl_Field_linearCode_1.f k l0 a1_0 a1_1) (slices_ContainsFunc_int64_int64_AT_impl_Field_linearCode_1.d l0 a1_0 a1_1) := lim_spec (fun k => slices_ContainsFunc_int64_int64_AT_impl_Field_linearCode_1.mono l0 a1_0 a1_1 k)
theorem slices_ContainsFunc_int64_int64_AT_impl_Field_linearCode_1.d_eq (l0 : List (List Int)) (a1_0 : Int) (a1_1 : Int) : slices_ContainsFunc_int64_int64_AT_impl_Field_linearCode_1.d l0 a1_0 a1_1 = (slices_IndexFunc_int64_int64_AT_impl_Field_linearCode_1.d l0 a1_0 a1_1).bind fun t252 => (some (decide (t252 ≥ 0))) := by
  refine IsLim.unique (slices_ContainsFunc_int64_int64_AT_impl_Field_linearCode_1.lim _ _ _) ?_
  unfold slices_ContainsFunc_int64_int64_AT_impl_Field_linearCode_1.f
  repeat' (first | exact IsLim.const _ | refine IsLim.ite ?_ ?_ | refine IsLim.bind ?_ (fun _ => ?_) | exact slices_IndexFunc_int64_int64_AT_impl_Field_linearCode_1.lim ..)
noncomputable def impl_Field_linearCode.d (a0_0 : Int) (a0_1 : Int) (l1 : List (List Int)) : Option (Int) := lim (fun k => impl_Field_linearCode.f k a0_0 a0_1 l1)
theorem impl_Field_linearCode.lim (a0_0 : Int) (a0_1 : Int) (l1 : List (List Int)) : IsLim (fun k => impl_Field_linearCode.f k a0_0 a0_1 l1) (impl_Field_linearCode.d a0_0 a0_1 l1) := lim_spec (fun k => impl_Field_linearCode.mono a0_0 a0_1 l1 k)
theorem impl_Field_linearCode.d_eq (a0_0 : Int) (a0_1 : Int) (l1 : List (List Int)) : impl_Field_linearCode.d a0_0 a0_1 l1 = (impl_ValidField.d a0_0 a0_1).bind fun t254 => (if t254 = true then ((slices_ContainsFunc_int64_int64_AT_impl_Field_linearCode_1.d l1 a0_0 a0_1).bind fun t255 => (if t255 = true then (some 1) else (some 0))) else (some 1)) := by
  refine IsLim.unique (impl_Field_linearCode.lim _ _ _) ?_
  unfold impl_Field_linearCode.f
  repeat' (first | exact IsLim.const _ | refine IsLim.ite ?_ ?_ | refine IsLim.bind ?_ (fun _ => ?_) | exact impl_ValidField.lim .. | exact slices_ContainsFunc_int64_int64_AT_impl_Field_linearCode_1.lim ..)
noncomputable def impl_product.l0d (x0 : Int) (x1 : Int) (x5 : Int) : Option (Int) := lim (fun k => impl_product.l0 k x0 x1 x5)
theorem impl_product.l0lim (x0 : Int) (x1 : Int) (x5 : Int) : IsLim (fun k => impl_product.l0 k x0 x1 x5) (impl_product.l0d x0 x1 x5) := lim_spec (fun k => (impl_product.mono_l k) x0 x1 x5)
theorem impl_product.l0d_eq (x0 : Int) (x1 : Int) (x5 : Int) : impl_product.l0d x0 x1 x5 = if x1 > 0 then (if (Go.bits .and .i64 x1 1) = 1 then (impl_product.l0d (wrap64 (x0 * 2)) (x1 / 2) (Go.bits .xor .i64 x5 x0)) else (impl_product.l0d (wrap64 (x0 * 2)) (x1 / 2) x5)) else (some x5) := by
  refine IsLim.unique (impl_product.l0lim _ _ _) ?_
  refine IsLim.shift (by rfl) ?_
  simp only [impl_product.l0]
  repeat' (first | exact IsLim.const _ | refine IsLim.ite ?_ ?_ | refine IsLim.bind ?_ (fun _ => ?_) | exact impl_product.l0lim ..)
noncomputable def impl_product.d (a0 : Int) (a1 : Int) : Option (Int) := lim (fun k => impl_product.f k a0 a1)
theorem impl_product.lim (a0 : Int) (a1 : Int) : IsLim (fun k => impl_product.f k a0 a1) (impl_product.d a0 a1) := lim_spec (fun k => impl_product.mono a0 a1 k)
theorem impl_product.d_eq (a0 : Int) (a1 : Int) : impl_product.d a0 a1 = impl_product.l0d a0 a1 0 := by
  refine IsLim.unique (impl_product.lim _ _) ?_
  unfold impl_product.f
  repeat' (first | exact IsLim.const _ | refine IsLim.ite ?_ ?_ | refine IsLim.bind ?_ (fun _ => ?_) | exact impl_product.l0lim ..)
noncomputable def impl_Field_mul.d (a0_0 : Int) (a0_1 : Int) (a1 : Int) (a2 : Int) : Option (Int) := lim (fun k => impl_Field_mul.f k a0_0 a0_1 a1 a2)
theorem impl_Field_mul.lim (a0_0 : Int) (a0_1 : Int) (a1 : Int) (a2 : Int) : IsLim (fun k => impl_Field_mul.f k a0_0 a0_1 a1 a2) (impl_Field_mul.d a0_0 a0_1 a1 a2) := lim_spec (fun k => impl_Field_mul.mono a0_0 a0_1 a1 a2 k)
theorem impl_Field_mul.d_eq (a0_0 : Int) (a0_1 : Int) (a1 : Int) (a2 : Int) : impl_Field_mul.d a0_0 a0_1 a1 a2 = (impl_product.d a1 a2).bind fun t257 => ((impl_restOf.d t257 a0_1).bind fun t258 => (some t258)) := by
  refine IsLim.unique (impl_Field_mul.lim _ _ _ _) ?_
  unfold impl_Field_mul.f
  repeat' (first | exact IsLim.const _ | refine IsLim.ite ?_ ?_ | refine IsLim.bind ?_ (fun _ => ?_) | exact impl_product.lim .. | exact impl_restOf.lim ..)
noncomputable def impl_Field_square.l0d (x1 : Int) (x10 : Int) (x11 : Int) (x260000 : Int) (x260001 : Int) : Option (Int) := lim (fun k => impl_Field_square.l0 k x1 x10 x11 x260000 x260001)
theorem impl_Field_square.l0lim (x1 : Int) (x10 : Int) (x11 : Int) (x260000 : Int) (x260001 : Int) : IsLim (fun k => impl_Field_square.l0 k x1 x10 x11 x260000 x260001) (impl_Field_square.l0d x1 x10 x11 x260000 x260001) := lim_spec (fun k => (impl_Field_square.mono_l k) x1 x10 x11 x260000 x260001)
theorem impl_Field_square.l0d_eq (x1 : Int) (x10 : Int) (x11 : Int) (x260000 : Int) (x260001 : Int) : impl_Field_square.l0d x1 x10 x11 x260000 x260001 = if x11 < x10 then ((impl_Field_mul.d x260000 x260001 x1 x1).bind fun t260 => (impl_Field_square.l0d t260 x10 (wrap64 (x11 + 1)) x260000 x260001)) else (some x1) := by
  refine IsLim.unique (impl_Field_square.l0lim _ _ _ _ _) ?_
  refine IsLim.shift (by rfl) ?_
  simp only [impl_Field_square.l0]
  repeat' (first | exact IsLim.const _ | refine IsLim.ite ?_ ?_ | refine IsLim.bind ?_ (fun _ => ?_) | exact impl_Field_mul.lim .. | exact impl_Field_square.l0lim ..)
noncomputable def impl_Field_square.d (a0_0 : Int) (a0_1 : Int) (a1 : Int) (a2 : Int) : Option (Int) := lim (fun k => impl_Field_square.f k a0_0 a0_1 a1 a2)
theorem impl_Field_square.lim (a0_0 : Int) (a0_1 : Int) (a1 : Int) (a2 : Int) : IsLim (fun k => impl_Field_square.f k a0_0 a0_1 a1 a2) (impl_Field_square.d a0_0 a0_1 a1 a2) := lim_spec (fun k => impl_Field_square.mono a0_0 a0_1 a1 a2 k)
theorem impl_Field_square.d_eq (a0_0 : Int) (a0_1 : Int) (a1 : Int) (a2 : Int) : impl_Field_square.d a0_0 a0_1 a1 a2 = if a0_0 = 0 then (none) else (impl_Field_square.l0d a1 (Int.tmod a2 a0_0) 0 a0_0 a0_1) := by
  refine IsLim.unique (impl_Field_square.lim _ _ _ _) ?_
  unfold impl_Field_square.f
  repeat' (first | exact IsLim.const _ | refine IsLim.ite ?_ ?_ | refine IsLim.bind ?_ (fun _ => ?_) | exact impl_Field_square.l0lim ..)
noncomputable def impl_trim.l0d (x0 : List Int) : Option (List Int) := lim (fun k => impl_trim.l0 k x0)
theorem impl_trim.l0lim (x0 : List Int) : IsLim (fun k => impl_trim.l0 k x0) (impl_trim.l0d x0) := lim_spec (fun k => (impl_trim.mono_l k) x0)
theorem impl_trim.l0d_eq (x0 : List Int) : impl_trim.l0d x0 = if (x0.length : Int) > 0 then (if 0 ≤ (wrap64 ((x0.length : Int) - 1)) then (if (wrap64 ((x0.length : Int) - 1)) < (x0.length : Int) then (if (rd x0 (wrap64 ((x0.length : Int) - 1))) = 0 then (if (wrap64 ((x0.length : Int) - 1)) ≤ (x0.length : Int) then (impl_trim.l0d (x0.take ((wrap64 ((x0.length : Int) - 1)) : Int).toNat)) else (none)) else (some x0)) else (none)) else (none)) else (some x0) := by
  refine IsLim.unique (impl_trim.l0lim _) ?_
  refine IsLim.shift (by rfl) ?_
  simp only [impl_trim.l0]
  repeat' (first | exact IsLim.const _ | refine IsLim.ite ?_ ?_ | refine IsLim.bind ?_ (fun _ => ?_) | exact impl_trim.l0lim ..)
noncomputable def impl_trim.d (l0 : List Int) : Option (List Int) := lim (fun k => impl_trim.f k l0)
theorem impl_trim.lim (l0 : List Int) : IsLim (fun k => impl_trim.f k l0) (impl_trim.d l0) := lim_spec (fun k => impl_trim.mono l0 k)
theorem impl_trim.d_eq (l0 : List Int) : impl_trim.d l0 = impl_trim.l0d l0 := by
  refine IsLim.unique (impl_trim.lim _) ?_
  unfold impl_trim.f
  repeat' (first | exact IsLim.const _ | refine IsLim.ite ?_ ?_ | refine IsLim.bind ?_ (fun _ => ?_) | exact impl_trim.l0lim ..)
noncomputable def spec_A2Element.l0d (x2 : Int) (x8 : Int) (x9 : Int) (x827000 : Int) (x827001 : Int) (x831000 : List Int) (x831001 : Int) (x831002 : Int) : Option (Int) := lim (fun k => spec_A2Element.l0 k x2 x8 x9 x827000 x827001 x831000 x831001 x831002)
theorem spec_A2Element.l0lim (x2 : Int) (x8 : Int) (x9 : Int) (x827000 : Int) (x827001 : Int) (x831000 : List Int) (x831001 : Int) (x831002 : Int) : IsLim (fun k => spec_A2Element.l0 k x2 x8 x9 x827000 x827001 x831000 x831001 x831002) (spec_A2Element.l0d x2 x8 x9 x827000 x827001 x831000 x831001 x831002) := lim_spec (fun k => (spec_A2Element.mono_l k) x2 x8 x9 x827000 x827001 x831000 x831001 x831002)
theorem spec_A2Element.l0d_eq (x2 : Int) (x8 : Int) (x9 : Int) (x827000 : Int) (x827001 : Int) (x831000 : List Int) (x831001 : Int) (x831002 : Int) : spec_A2Element.l0d x2 x8 x9 x827000 x827001 x831000 x831001 x831002 = if x9 ≤ x2 then ((spec_l01Size.f x827000 x827001).bind fun t831 => ((spec_l00Src_pick.f x831000 x831001 x831002 t831).bind fun bt832 => (spec_A2Element.l0d x2 bt832.1 (wrap64 (x9 + 1)) x827000 x827001 x831000 bt832.2.1 bt832.2.2))) else (some x8) := by
  refine IsLim.unique (spec_A2Element.l0lim _ _ _ _ _ _ _ _) ?_
  refine IsLim.shift (by rfl) ?_
  simp only [spec_A2Element.l0]
  repeat' (first | exact IsLim.const _ | refine IsLim.ite ?_ ?_ | refine IsLim.bind ?_ (fun _ => ?_) | exact spec_A2Element.l0lim ..)
noncomputable def spec_A2Element.d (l0 : List Int) (a1_0 : Int) (a1_1 : Int) (a2 : Int) : Option (Int) := lim (fun k => spec_A2Element.f k l0 a1_0 a1_1 a2)
theorem spec_A2Element.lim (l0 : List Int) (a1_0 : Int) (a1_1 : Int) (a2 : Int) : IsLim (fun k => spec_A2Element.f k l0 a1_0 a1_1 a2) (spec_A2Element.d l0 a1_0 a1_1 a2) := lim_spec (fun k => spec_A2Element.mono l0 a1_0 a1_1 a2 k)
theorem spec_A2Element.d_eq (l0 : List Int) (a1_0 : Int) (a1_1 : Int) (a2 : Int) : spec_A2Element.d l0 a1_0 a1_1 a2 = (spec_l00From.f l0).bind fun bt827 => (spec_A2Element.l0d a2 0 0 a1_0 a1_1 bt827.1 bt827.2.1 bt827.2.2) := by
  refine IsLim.unique (spec_A2Element.lim _ _ _ _) ?_
  unfold spec_A2Element.f
  repeat' (first | exact IsLim.const _ | refine IsLim.ite ?_ ?_ | refine IsLim.bind ?_ (fun _ => ?_) | exact spec_A2Element.l0lim ..)
noncomputable def impl_Field_value.l0d (x2 : Int) (x7 : Int) (x10 : List Int) (x11 : Int) (x12 : Int) (x836000 : Int) (x836001 : Int) : Option (Int) := lim (fun k => impl_Field_value.l0 k x2 x7 x10 x11 x12 x836000 x836001)
theorem impl_Field_value.l0lim (x2 : Int) (x7 : Int) (x10 : List Int) (x11 : Int) (x12 : Int) (x836000 : Int) (x836001 : Int) : IsLim (fun k => impl_Field_value.l0 k x2 x7 x10 x11 x12 x836000 x836001) (impl_Field_value.l0d x2 x7 x10 x11 x12 x836000 x836001) := lim_spec (fun k => (impl_Field_value.mono_l k) x2 x7 x10 x11 x12 x836000 x836001)
theorem impl_Field_value.l0d_eq (x2 : Int) (x7 : Int) (x10 : List Int) (x11 : Int) (x12 : Int) (x836000 : Int) (x836001 : Int) : impl_Field_value.l0d x2 x7 x10 x11 x12 x836000 x836001 = if x12 < x11 then (if 0 ≤ x12 then (if x12 < (x10.length : Int) then ((impl_Field_square.d x836000 x836001 x2 x12).bind fun t837 => ((impl_Field_mul.d x836000 x836001 (rd x10 x12) t837).bind fun t838 => (impl_Field_value.l0d x2 (Go.bits .xor .i64 x7 t838) x10 x11 (wrap64 (x12 + 1)) x836000 x836001))) else (none)) else (none)) else (some x7) := by
  refine IsLim.unique (impl_Field_value.l0lim _ _ _ _ _ _ _) ?_
  refine IsLim.shift (by rfl) ?_
  simp only [impl_Field_value.l0]
  repeat' (first | exact IsLim.const _ | refine IsLim.ite ?_ ?_ | refine IsLim.bind ?_ (fun _ => ?_) | exact impl_Field_square.lim .. | exact impl_Field_mul.lim .. | exact impl_Field_value.l0lim ..)
noncomputable def impl_Field_value.d (a0_0 : Int) (a0_1 : Int) (l1 : List Int) (a2 : Int) : Option (Int) := lim (fun k => impl_Field_value.f k a0_0 a0_1 l1 a2)
theorem impl_Field_value.lim (a0_0 : Int) (a0_1 : Int) (l1 : List Int) (a2 : Int) : IsLim (fun k => impl_Field_value.f k a0_0 a0_1 l1 a2) (impl_Field_value.d a0_0 a0_1 l1 a2) := lim_spec (fun k => impl_Field_value.mono a0_0 a0_1 l1 a2 k)
theorem impl_Field_value.d_eq (a0_0 : Int) (a0_1 : Int) (l1 : List Int) (a2 : Int) : impl_Field_value.d a0_0 a0_1 l1 a2 = impl_Field_value.l0d a2 0 l1 (l1.length : Int) 0 a0_0 a0_1 := by
  refine IsLim.unique (impl_Field_value.lim _ _ _ _) ?_
  unfold impl_Field_value.f
  repeat' (first | exact IsLim.const _ | refine IsLim.ite ?_ ?_ | refine IsLim.bind ?_ (fun _ => ?_) | exact impl_Field_value.l0lim ..)
noncomputable def impl_ValueOf.j0d (x1 : List Int) (x2 : Int) (x8 : Int) (x21 : Bool) (x840000 : Int) (x840001 : Int) : Option (Int × Int) := lim (fun k => impl_ValueOf.j0 k x1 x2 x8 x21 x840000 x840001)
theorem impl_ValueOf.j0lim (x1 : List Int) (x2 : Int) (x8 : Int) (x21 : Bool) (x840000 : Int) (x840001 : Int) : IsLim (fun k => impl_ValueOf.j0 k x1 x2 x8 x21 x840000 x840001) (impl_ValueOf.j0d x1 x2 x8 x21 x840000 x840001) := lim_spec (fun k => (impl_ValueOf.mono_l k) x1 x2 x8 x21 x840000 x840001)
theorem impl_ValueOf.j0d_eq (x1 : List Int) (x2 : Int) (x8 : Int) (x21 : Bool) (x840000 : Int) (x840001 : Int) : impl_ValueOf.j0d x1 x2 x8 x21 x840000 x840001 = if x21 = true then (if 2 = 0 then ((impl_Field_value.d x840000 x840001 x1 x2).bind fun t848 => (some (t848, 0))) else (some (0, 2))) else (if x8 = 0 then ((impl_Field_value.d x840000 x840001 x1 x2).bind fun t849 => (some (t849, 0))) else (some (0, x8))) := by
  refine IsLim.unique (impl_ValueOf.j0lim _ _ _ _ _ _) ?_
  refine IsLim.shift (by rfl) ?_
  simp only [impl_ValueOf.j0]
  repeat' (first | exact IsLim.const _ | refine IsLim.ite ?_ ?_ | refine IsLim.bind ?_ (fun _ => ?_) | exact impl_Field_value.lim ..)
noncomputable def impl_ValueOf.d (a0_0 : Int) (a0_1 : Int) (l1 : List Int) (a2 : Int) : Option (Int × Int) := lim (fun k => impl_ValueOf.f k a0_0 a0_1 l1 a2)
theorem impl_ValueOf.lim (a0_0 : Int) (a0_1 : Int) (l1 : List Int) (a2 : Int) : IsLim (fun k => impl_ValueOf.f k a0_0 a0_1 l1 a2) (impl_ValueOf.d a0_0 a0_1 l1 a2) := lim_spec (fun k => impl_ValueOf.mono a0_0 a0_1 l1 a2 k)
theorem impl_ValueOf.d_eq (a0_0 : Int) (a0_1 : Int) (l1 : List Int) (a2 : Int) : impl_ValueOf.d a0_0 a0_1 l1 a2 = (impl_Field_linearCode.d a0_0 a0_1 (([l1] : List (List Int)))).bind fun t843 => (if t843 = 0 then ((impl_Field_has.d a0_0 a0_1 (([a2] : List Int))).bind fun t847 => (impl_ValueOf.j0d l1 a2 t843 (!t847) a0_0 a0_1)) else (impl_ValueOf.j0d l1 a2 t843 false a0_0 a0_1)) := by
  refine IsLim.unique (impl_ValueOf.lim _ _ _ _) ?_
  unfold impl_ValueOf.f
  repeat' (first | exact IsLim.const _ | refine IsLim.ite ?_ ?_ | refine IsLim.bind ?_ (fun _ => ?_) | exact impl_Field_linearCode.lim .. | exact impl_Field_has.lim .. | exact impl_ValueOf.j0lim ..)
noncomputable def impl_Field_fold.l0d (x5 : List Int) (x11 : List Int) (x12 : Int) (x13 : Int) (x851000 : Int) (x851001 : Int) : Option (List Int) := lim (fun k => impl_Field_fold.l0 k x5 x11 x12 x13 x851000 x851001)
theorem impl_Field_fold.l0lim (x5 : List Int) (x11 : List Int) (x12 : Int) (x13 : Int) (x851000 : Int) (x851001 : Int) : IsLim (fun k => impl_Field_fold.l0 k x5 x11 x12 x13 x851000 x851001) (impl_Field_fold.l0d x5 x11 x12 x13 x851000 x851001) := lim_spec (fun k => (impl_Field_fold.mono_l k) x5 x11 x12 x13 x851000 x851001)
theorem impl_Field_fold.l0d_eq (x5 : List Int) (x11 : List Int) (x12 : Int) (x13 : Int) (x851000 : Int) (x851001 : Int) : impl_Field_fold.l0d x5 x11 x12 x13 x851000 x851001 = if x13 < x12 then (if 0 ≤ x13 then (if x13 < (x11.length : Int) then (if x851000 = 0 then (none) else (if 0 ≤ (Int.tmod x13 x851000) then (if (Int.tmod x13 x851000) < (x5.length : Int) then (impl_Field_fold.l0d (x5.set ((Int.tmod x13 x851000) : Int).toNat (Go.bits .xor .i64 (rd x5 (Int.tmod x13 x851000)) (rd x11 x13))) x11 x12 (wrap64 (x13 + 1)) x851000 x851001) else (none)) else (none))) else (none)) else (none)) else ((impl_trim.d x5).bind fun t857 => (some t857)) := by
  refine IsLim.unique (impl_Field_fold.l0lim _ _ _ _ _ _) ?_
  refine IsLim.shift (by rfl) ?_
  simp only [impl_Field_fold.l0]
  repeat' (first | exact IsLim.const _ | refine IsLim.ite ?_ ?_ | refine IsLim.bind ?_ (fun _ => ?_) | exact impl_trim.lim .. | exact impl_Field_fold.l0lim ..)
noncomputable def impl_Field_fold.d (a0_0 : Int) (a0_1 : Int) (l1 : List Int) : Option (List Int) := lim (fun k => impl_Field_fold.f k a0_0 a0_1 l1)
theorem impl_Field_fold.lim (a0_0 : Int) (a0_1 : Int) (l1 : List Int) : IsLim (fun k => impl_Field_fold.f k a0_0 a0_1 l1) (impl_Field_fold.d a0_0 a0_1 l1) := lim_spec (fun k => impl_Field_fold.mono a0_0 a0_1 l1 k)
theorem impl_Field_fold.d_eq (a0_0 : Int) (a0_1 : Int) (l1 : List Int) : impl_Field_fold.d a0_0 a0_1 l1 = if 0 ≤ a0_0 then (if (a0_0 : Int).toNat ≤ 35184372088832 then (impl_Field_fold.l0d (List.replicate (a0_0 : Int).toNat 0) l1 (l1.length : Int) 0 a0_0 a0_1) else (none)) else (none) := by
  refine IsLim.unique (impl_Field_fold.lim _ _ _) ?_
  unfold impl_Field_fold.f
  repeat' (first | exact IsLim.const _ | refine IsLim.ite ?_ ?_ | refine IsLim.bind ?_ (fun _ => ?_) | exact impl_Field_fold.l0lim ..)
noncomputable def impl_FoldLinear.d (a0_0 : Int) (a0_1 : Int) (l1 : List Int) : Option (List Int × Int) := lim (fun k => impl_FoldLinear.f k a0_0 a0_1 l1)
theorem impl_FoldLinear.lim (a0_0 : Int) (a0_1 : Int) (l1 : List Int) : IsLim (fun k => impl_FoldLinear.f k a0_0 a0_1 l1) (impl_FoldLinear.d a0_0 a0_1 l1) := lim_spec (fun k => impl_FoldLinear.mono a0_0 a0_1 l1 k)
theorem impl_FoldLinear.d_eq (a0_0 : Int) (a0_1 : Int) (l1 : List Int) : impl_FoldLinear.d a0_0 a0_1 l1 = (impl_Field_linearCode.d a0_0 a0_1 (([l1] : List (List Int)))).bind fun t864 => (if t864 = 0 then ((impl_Field_fold.d a0_0 a0_1 l1).bind fun t865 => (some (t865, 0))) else (some (([] : List Int), t864))) := by
  refine IsLim.unique (impl_FoldLinear.lim _ _ _) ?_
  unfold impl_FoldLinear.f
  repeat' (first | exact IsLim.const _ | refine IsLim.ite ?_ ?_ | refine IsLim.bind ?_ (fun _ => ?_) | exact impl_Field_linearCode.lim .. | exact impl_Field_fold.lim ..)
noncomputable def impl_Field_all.l0d (x3 : List Int) (x7 : Int) (x8 : Int) : Option (List Int) := lim (fun k => impl_Field_all.l0 k x3 x7 x8)
theorem impl_Field_all.l0lim (x3 : List Int) (x7 : Int) (x8 : Int) : IsLim (fun k => impl_Field_all.l0 k x3 x7 x8) (impl_Field_all.l0d x3 x7 x8) := lim_spec (fun k => (impl_Field_all.mono_l k) x3 x7 x8)
theorem impl_Field_all.l0d_eq (x3 : List Int) (x7 : Int) (x8 : Int) : impl_Field_all.l0d x3 x7 x8 = if x8 < x7 then (if x3.length < 17592186044416 then (impl_Field_all.l0d (x3 ++ [x8]) x7 (wrap64 (x8 + 1))) else (none)) else (some x3) := by
  refine IsLim.unique (impl_Field_all.l0lim _ _ _) ?_
  refine IsLim.shift (by rfl) ?_
  simp only [impl_Field_all.l0]
  repeat' (first | exact IsLim.const _ | refine IsLim.ite ?_ ?_ | refine IsLim.bind ?_ (fun _ => ?_) | exact impl_Field_all.l0lim ..)
noncomputable def impl_Field_all.d (a0_0 : Int) (a0_1 : Int) : Option (List Int) := lim (fun k => impl_Field_all.f k a0_0 a0_1)
theorem impl_Field_all.lim (a0_0 : Int) (a0_1 : Int) : IsLim (fun k => impl_Field_all.f k a0_0 a0_1) (impl_Field_all.d a0_0 a0_1) := lim_spec (fun k => impl_Field_all.mono a0_0 a0_1 k)
theorem impl_Field_all.d_eq (a0_0 : Int) (a0_1 : Int) : impl_Field_all.d a0_0 a0_1 = (impl_Field_count.f a0_0 a0_1).bind fun t872 => (impl_Field_all.l0d (([] : List Int)) t872 0) := by
  refine IsLim.unique (impl_Field_all.lim _ _) ?_
  unfold impl_Field_all.f
  repeat' (first | exact IsLim.const _ | refine IsLim.ite ?_ ?_ | refine IsLim.bind ?_ (fun _ => ?_) | exact impl_Field_all.l0lim ..)
noncomputable def impl_RootsOf_1.d (a0 : Int) (a1_0 : Int) (a1_1 : Int) (l2_0 : List Int) : Option (Bool) := lim (fun k => impl_RootsOf_1.f k a0 a1_0 a1_1 l2_0)
theorem impl_RootsOf_1.lim (a0 : Int) (a1_0 : Int) (a1_1 : Int) (l2_0 : List Int) : IsLim (fun k => impl_RootsOf_1.f k a0 a1_0 a1_1 l2_0) (impl_RootsOf_1.d a0 a1_0 a1_1 l2_0) := lim_spec (fun k => impl_RootsOf_1.mono a0 a1_0 a1_1 l2_0 k)
theorem impl_RootsOf_1.d_eq (a0 : Int) (a1_0 : Int) (a1_1 : Int) (l2_0 : List Int) : impl_RootsOf_1.d a0 a1_0 a1_1 l2_0 = (impl_Field_value.d a1_0 a1_1 l2_0 a0).bind fun t876 => (some (t876 != 0)) := by
  refine IsLim.unique (impl_RootsOf_1.lim _ _ _ _) ?_
  unfold impl_RootsOf_1.f
  repeat' (first | exact IsLim.const _ | refine IsLim.ite ?_ ?_ | refine IsLim.bind ?_ (fun _ => ?_) | exact impl_Field_value.lim ..)
noncomputable def slices_IndexFunc_int64_int64_AT_impl_RootsOf_1.l0d (x0 : List Int) (x7 : Int) (x8 : Int) (x49000 : Int) (x49001 : Int) (x50000 : List Int) : Option (Int) := lim (fun k => slices_IndexFunc_int64_int64_AT_impl_RootsOf_1.l0 k x0 x7 x8 x49000 x49001 x50000)
theorem slices_IndexFunc_int64_int64_AT_impl_RootsOf_1.l0lim (x0 : List Int) (x7 : Int) (x8 : Int) (x49000 : Int) (x49001 : Int) (x50000 : List Int) : IsLim (fun k => slices_IndexFunc_int64_int64_AT_impl_RootsOf_1.l0 k x0 x7 x8 x49000 x49001 x50000) (slices_IndexFunc_int64_int64_AT_impl_RootsOf_1.l0d x0 x7 x8 x49000 x49001 x50000) := lim_spec (fun k => (slices_IndexFunc_int64_int64_AT_impl_RootsOf_1.mono_l k) x0 x7 x8 x49000 x49001 x50000)
theorem slices_IndexFunc_int64_int64_AT_impl_RootsOf_1.l0d_eq (x0 : List Int) (x7 : Int) (x8 : Int) (x49000 : Int) (x49001 : Int) (x50000 : List Int) : slices_IndexFunc_int64_int64_AT_impl_RootsOf_1.l0d x0 x7 x8 x49000 x49001 x50000 = if x8 < x7 then (if 0 ≤ x8 then (if x8 < (x0.length : Int) then ((impl_RootsOf_1.d (rd x0 x8) x49000 x49001 x50000).bind fun t878 => (if t878 = true then (some x8) else (slices_IndexFunc_int64_int64_AT_impl_RootsOf_1.l0d x0 x7 (wrap64 (x8 + 1)) x49000 x49001 x50000))) else (none)) else (none)) else (some (-1)) := by
  refine IsLim.unique (slices_IndexFunc_int64_int64_AT_impl_RootsOf_1.l0lim _ _ _ _ _ _) ?_
  refine IsLim.shift (by rfl) ?_
  simp only [slices_IndexFunc_int64_int64_AT_impl_RootsOf_1.l0]
  repeat' (first | exact IsLim.const _ | refine IsLim.ite ?_ ?_ | refine IsLim.bind ?_ (fun _ => ?_) | exact impl_RootsOf_1.lim .. | exact slices_IndexFunc_int64_int64_AT_impl_RootsOf_1.l0lim ..)
noncomputable def slices_IndexFunc_int64_int64_AT_impl_RootsOf_1.d (l0 : List Int) (a1_0 : Int) (a1_1 : Int) (l1_2 : List Int) : Option (Int) := lim (fun k => slices_IndexFunc_int64_int64_AT_impl_RootsOf_1.f k l0 a1_0 a1_1 l1_2)
theorem slices_IndexFunc_int64_int64_AT_impl_RootsOf_1.lim (l0 : List Int) (a1_0 : Int) (a1_1 : Int) (l1_2 : List Int) : IsLim (fun k => slices_IndexFunc_int64_int64_AT_impl_RootsOf_1.f k l0 a1_0 a1_1 l1_2) (slices_IndexFunc_int64_int64_AT_impl_RootsOf_1.d l0 a1_0 a1_1 l1_2) := lim_spec (fun k => slices_IndexFunc_int64_int64_AT_impl_RootsOf_1.mono l0 a1_0 a1_1 l1_2 k)
theorem slices_IndexFunc_int64_int64_AT_impl_RootsOf_1.d_eq (l0 : List Int) (a1_0 : Int) (a1_1 : Int) (l1_2 : List Int) : slices_IndexFunc_int64_int64_AT_impl_RootsOf_1.d l0 a1_0 a1_1 l1_2 = slices_IndexFunc_int64_int64_AT_impl_RootsOf_1.l0d l0 (l0.length : Int) 0 a1_0 a1_1 l1_2 := by
  refine IsLim.unique (slices_IndexFunc_int64_int64_AT_impl_RootsOf_1.lim _ _ _ _) ?_
  unfold slices_IndexFunc_int64_int64_AT_impl_RootsOf_1.f
  repeat' (first | exact IsLim.const _ | refine IsLim.ite ?_ ?_ | refine IsLim.bind ?_ (fun _ => ?_) | exact slices_IndexFunc_int64_int64_AT_impl_RootsOf_1.l0lim ..)
noncomputable def slices_DeleteFunc_int64_int64_AT_impl_RootsOf_1.l0d (x0 : List Int) (x5 : Int) (x6 : Int) (x49000 : Int) (x49001 : Int) (x50000 : List Int) : Option (List Int) := lim (fun k => slices_DeleteFunc_int64_int64_AT_impl_RootsOf_1.l0 k x0 x5 x6 x49000 x49001 x50000)
theorem slices_DeleteFunc_int64_int64_AT_impl_RootsOf_1.l0lim (x0 : List Int) (x5 : Int) (x6 : Int) (x49000 : Int) (x49001 : Int) (x50000 : List Int) : IsLim (fun k => slices_DeleteFunc_int64_int64_AT_impl_RootsOf_1.l0 k x0 x5 x6 x49000 x49001 x50000) (slices_DeleteFunc_int64_int64_AT_impl_RootsOf_1.l0d x0 x5 x6 x49000 x49001 x50000) := lim_spec (fun k => (slices_DeleteFunc_int64_int64_AT_impl_RootsOf_1.mono_l k) x0 x5 x6 x49000 x49001 x50000)
theorem slices_DeleteFunc_int64_int64_AT_impl_RootsOf_1.l0d_eq (x0 : List Int) (x5 : Int) (x6 : Int) (x49000 : Int) (x49001 : Int) (x50000 : List Int) : slices_DeleteFunc_int64_int64_AT_impl_RootsOf_1.l0d x0 x5 x6 x49000 x49001 x50000 = if x6 < (x0.length : Int) then (if 0 ≤ x6 then ((impl_RootsOf_1.d (rd x0 x6) x49000 x49001 x50000).bind fun t881 => (if t881 = true then (slices_DeleteFunc_int64_int64_AT_impl_RootsOf_1.l0d x0 x5 (wrap64 (x6 + 1)) x49000 x49001 x50000) else (if 0 ≤ x5 then (if x5 < (x0.length : Int) then (slices_DeleteFunc_int64_int64_AT_impl_RootsOf_1.l0d (x0.set (x5 : Int).toNat (rd x0 x6)) (wrap64 (x5 + 1)) (wrap64 (x6 + 1)) x49000 x49001 x50000) else (none)) else (none)))) else (none)) else (if 0 ≤ x5 then (if x5 ≤ (x0.length : Int) then (some ((clrEnd x0 (x5 : Int).toNat).take (x5 : Int).toNat)) else (none)) else (none)) := by
  refine IsLim.unique (slices_DeleteFunc_int64_int64_AT_impl_RootsOf_1.l0lim _ _ _ _ _ _) ?_
  refine IsLim.shift (by rfl) ?_
  simp only [slices_DeleteFunc_int64_int64_AT_impl_RootsOf_1.l0]
  repeat' (first | exact IsLim.const _ | refine IsLim.ite ?_ ?_ | refine IsLim.bind ?_ (fun _ => ?_) | exact impl_RootsOf_1.lim .. | exact slices_DeleteFunc_int64_int64_AT_impl_RootsOf_1.l0lim ..)
noncomputable def slices_DeleteFunc_int64_int64_AT_impl_RootsOf_1.d (l0 : List Int) (a1_0 : Int) (a1_1 : Int) (l1_2 : List Int) : Option (List Int) := lim (fun k => slices_DeleteFunc_int64_int64_AT_impl_RootsOf_1.f k l0 a1_0 a1_1 l1_2)
theorem slices_DeleteFunc_int64_int64_AT_impl_RootsOf_1.lim (l0 : List Int) (a1_0 : Int) (a1_1 : Int) (l1_2 : List Int) : IsLim (fun k => slices_DeleteFunc_int64_int64_AT_impl_RootsOf_1.f k l0 a1_0 a1_1 l1_2) (slices_DeleteFunc_int64_int64_AT_impl_RootsOf_1.d l0 a1_0 a1_1 l1_2) := lim_spec (fun k => slices_DeleteFunc_int64_int64_AT_impl_RootsOf_1.mono l0 a1_0 a1_1 l1_2 k)
theorem slices_DeleteFunc_int64_int64_AT_impl_RootsOf_1.d_eq (l0 : List Int) (a1_0 : Int) (a1_1 : Int) (l1_2 : List Int) : slices_DeleteFunc_int64_int64_AT_impl_RootsOf_1.d l0 a1_0 a1_1 l1_2 = (slices_IndexFunc_int64_int64_AT_impl_RootsOf_1.d l0 a1_0 a1_1 l1_2).bind fun t879 => (if t879 = (-1) then (some l0) else (slices_DeleteFunc_int64_int64_AT_impl_RootsOf_1.l0d l0 t879 (wrap64 (t879 + 1)) a1_0 a1_1 l1_2)) := by
  refine IsLim.unique (slices_DeleteFunc_int64_int64_AT_impl_RootsOf_1.lim _ _ _ _) ?_
  unfold slices_DeleteFunc_int64_int64_AT_impl_RootsOf_1.f
  repeat' (first | exact IsLim.const _ | refine IsLim.ite ?_ ?_ | refine IsLim.bind ?_ (fun _ => ?_) | exact slices_IndexFunc_int64_int64_AT_impl_RootsOf_1.lim .. | exact slices_DeleteFunc_int64_int64_AT_impl_RootsOf_1.l0lim ..)
noncomputable def impl_RootsOf.d (a0_0 : Int) (a0_1 : Int) (l1 : List Int) : Option (List Int × Int) := lim (fun k => impl_RootsOf.f k a0_0 a0_1 l1)
theorem impl_RootsOf.lim (a0_0 : Int) (a0_1 : Int) (l1 : List Int) : IsLim (fun k => impl_RootsOf.f k a0_0 a0_1 l1) (impl_RootsOf.d a0_0 a0_1 l1) := lim_spec (fun k => impl_RootsOf.mono a0_0 a0_1 l1 k)
theorem impl_RootsOf.d_eq (a0_0 : Int) (a0_1 : Int) (l1 : List Int) : impl_RootsOf.d a0_0 a0_1 l1 = (impl_Field_linearCode.d a0_0 a0_1 (([l1] : List (List Int)))).bind fun t896 => (if t896 = 0 then ((impl_Field_all.d a0_0 a0_1).bind fun t897 => ((slices_DeleteFunc_int64_int64_AT_impl_RootsOf_1.d t897 a0_0 a0_1 l1).bind fun t900 => (some (t900, 0)))) else (some (([] : List Int), t896))) := by
  refine IsLim.unique (impl_RootsOf.lim _ _ _) ?_
  unfold impl_RootsOf.f
  repeat' (first | exact IsLim.const _ | refine IsLim.ite ?_ ?_ | refine IsLim.bind ?_ (fun _ => ?_) | exact impl_Field_linearCode.lim .. | exact impl_Field_all.lim .. | exact slices_DeleteFunc_int64_int64_AT_impl_RootsOf_1.lim ..)
noncomputable def slices_IndexFunc_int64_int64_AT_impl_echelon_1.l0d (x0 : List Int) (x7 : Int) (x8 : Int) (x49000 : Int) : Option (Int) := lim (fun k => slices_IndexFunc_int64_int64_AT_impl_echelon_1.l0 k x0 x7 x8 x49000)
theorem slices_IndexFunc_int64_int64_AT_impl_echelon_1.l0lim (x0 : List Int) (x7 : Int) (x8 : Int) (x49000 : Int) : IsLim (fun k => slices_IndexFunc_int64_int64_AT_impl_echelon_1.l0 k x0 x7 x8 x49000) (slices_IndexFunc_int64_int64_AT_impl_echelon_1.l0d x0 x7 x8 x49000) := lim_spec (fun k => (slices_IndexFunc_int64_int64_AT_impl_echelon_1.mono_l k) x0 x7 x8 x49000)
theorem slices_IndexFunc_int64_int64_AT_impl_echelon_1.l0d_eq (x0 : List Int) (x7 : Int) (x8 : Int) (x49000 : Int) : slices_IndexFunc_int64_int64_AT_impl_echelon_1.l0d x0 x7 x8 x49000 = if x8 < x7 then (if 0 ≤ x8 then (if x8 < (x0.length : Int) then ((impl_echelon_1.f (rd x0 x8) x49000).bind fun t904 => (if t904 = true then (some x8) else (slices_IndexFunc_int64_int64_AT_impl_echelon_1.l0d x0 x7 (wrap64 (x8 + 1)) x49000))) else (none)) else (none)) else (some (-1)) := by
  refine IsLim.unique (slices_IndexFunc_int64_int64_AT_impl_echelon_1.l0lim _ _ _ _) ?_
  refine IsLim.shift (by rfl) ?_
  simp only [slices_IndexFunc_int64_int64_AT_impl_echelon_1.l0]
  repeat' (first | exact IsLim.const _ | refine IsLim.ite ?_ ?_ | refine IsLim.bind ?_ (fun _ => ?_) | exact slices_IndexFunc_int64_int64_AT_impl_echelon_1.l0lim ..)
noncomputable def slices_IndexFunc_int64_int64_AT_impl_echelon_1.d (l0 : List Int) (a1_0 : Int) : Option (Int) := lim (fun k => slices_IndexFunc_int64_int64_AT_impl_echelon_1.f k l0 a1_0)
theorem slices_IndexFunc_int64_int64_AT_impl_echelon_1.lim (l0 : List Int) (a1_0 : Int) : IsLim (fun k => slices_IndexFunc_int64_int64_AT_impl_echelon_1.f k l0 a1_0) (slices_IndexFunc_int64_int64_AT_impl_echelon_1.d l0 a1_0) := lim_spec (fun k => slices_IndexFunc_int64_int64_AT_impl_echelon_1.mono l0 a1_0 k)
theorem slices_IndexFunc_int64_int64_AT_impl_echelon_1.d_eq (l0 : List Int) (a1_0 : Int) : slices_IndexFunc_int64_int64_AT_impl_echelon_1.d l0 a1_0 = slices_IndexFunc_int64_int64_AT_impl_echelon_1.l0d l0 (l0.length : Int) 0 a1_0 := by
  refine IsLim.unique (slices_IndexFunc_int64_int64_AT_impl_echelon_1.lim _ _) ?_
  unfold slices_IndexFunc_int64_int64_AT_impl_echelon_1.f
  repeat' (first | exact IsLim.const _ | refine IsLim.ite ?_ ?_ | refine IsLim.bind ?_ (fun _ => ?_) | exact slices_IndexFunc_int64_int64_AT_impl_echelon_1.l0lim ..)
noncomputable def impl_echelon.l0d (x0 : List Int) (x3 : Int) (x909000 : Int) : Option (List Int) := lim (fun k => impl_echelon.l0 k x0 x3 x909000)
theorem impl_echelon.l0lim (x0 : List Int) (x3 : Int) (x909000 : Int) : IsLim (fun k => impl_echelon.l0 k x0 x3 x909000) (impl_echelon.l0d x0 x3 x909000) := lim_spec (fun k => (impl_echelon.mono_l k).1 x0 x3 x909000)
noncomputable def impl_echelon.j1d (x0 : List Int) (x3 : Int) (x16 : Bool) (x909000 : Int) : Option (List Int) := lim (fun k => impl_echelon.j1 k x0 x3 x16 x909000)
theorem impl_echelon.j1lim (x0 : List Int) (x3 : Int) (x16 : Bool) (x909000 : Int) : IsLim (fun k => impl_echelon.j1 k x0 x3 x16 x909000) (impl_echelon.j1d x0 x3 x16 x909000) := lim_spec (fun k => (impl_echelon.mono_l k).2.1 x0 x3 x16 x909000)
noncomputable def impl_echelon.l1d (x0 : List Int) (x3 : Int) (x45 : Int) (x46 : Int) (x909000 : Int) : Option (List Int) := lim (fun k => impl_echelon.l1 k x0 x3 x45 x46 x909000)
theorem impl_echelon.l1lim (x0 : List Int) (x3 : Int) (x45 : Int) (x46 : Int) (x909000 : Int) : IsLim (fun k => impl_echelon.l1 k x0 x3 x45 x46 x909000) (impl_echelon.l1d x0 x3 x45 x46 x909000) := lim_spec (fun k => (impl_echelon.mono_l k).2.2 x0 x3 x45 x46 x909000)
theorem impl_echelon.l0d_eq (x0 : List Int) (x3 : Int) (x909000 : Int) : impl_echelon.l0d x0 x3 x909000 = if x909000 < 62 then (impl_echelon.j1d x0 x3 (decide (x3 < (x0.length : Int))) x909000) else (impl_echelon.j1d x0 x3 false x909000) := by
  refine IsLim.unique (impl_echelon.l0lim _ _ _) ?_
  refine IsLim.shift (by rfl) ?_
  simp only [impl_echelon.l0]
  repeat' (first | exact IsLim.const _ | refine IsLim.ite ?_ ?_ | refine IsLim.bind ?_ (fun _ => ?_) | exact impl_echelon.j1lim ..)
theorem impl_echelon.j1d_eq (x0 : List Int) (x3 : Int) (x16 : Bool) (x909000 : Int) : impl_echelon.j1d x0 x3 x16 x909000 = if x16 = true then (if 0 ≤ x3 then (if x3 ≤ (x0.length : Int) then ((slices_IndexFunc_int64_int64_AT_impl_echelon_1.d (x0.drop (x3 : Int).toNat) x909000).bind fun t916 => (if t916 < 0 then (impl_echelon.l0d x0 x3 (wrap64 (x909000 + 1))) else (if 0 ≤ (wrap64 (x3 + t916)) then (if (wrap64 (x3 + t916)) < (x0.length : Int) then (if x3 < (x0.length : Int) then (impl_echelon.l1d ((x0.set (x3 : Int).toNat (rd x0 (wrap64 (x3 + t916)))).set ((wrap64 (x3 + t916)) : Int).toNat (rd x0 x3)) x3 (x0.length : Int) 0 x909000) else (none)) else (none)) else (none)))) else (none)) else (none)) else (if 0 ≤ x3 then (if x3 ≤ (x0.length : Int) then (some (x0.take (x3 : Int).toNat)) else (none)) else (none)) := by
  refine IsLim.unique (impl_echelon.j1lim _ _ _ _) ?_
  refine IsLim.shift (by rfl) ?_
  simp only [impl_echelon.j1]
  repeat' (first | exact IsLim.const _ | refine IsLim.ite ?_ ?_ | refine IsLim.bind ?_ (fun _ => ?_) | exact slices_IndexFunc_int64_int64_AT_impl_echelon_1.lim .. | exact impl_echelon.l0lim .. | exact impl_echelon.l1lim ..)
theorem impl_echelon.l1d_eq (x0 : List Int) (x3 : Int) (x45 : Int) (x46 : Int) (x909000 : Int) : impl_echelon.l1d x0 x3 x45 x46 x909000 = if x46 < x45 then (if x46 = x3 then (impl_echelon.l1d x0 x3 x45 (wrap64 (x46 + 1)) x909000) else (if 0 ≤ x46 then (if x46 < (x0.length : Int) then (if 0 ≤ x909000 then (if (Go.bits .and .i64 (shr .i64 (rd x0 x46) x909000) 1) = 1 then (if 0 ≤ x3 then (if x3 < (x0.length : Int) then (impl_echelon.l1d (x0.set (x46 : Int).toNat (Go.bits .xor .i64 (rd x0 x46) (rd x0 x3))) x3 x45 (wrap64 (x46 + 1)) x909000) else (none)) else (none)) else (impl_echelon.l1d x0 x3 x45 (wrap64 (x46 + 1)) x909000)) else (none)) else (none)) else (none))) else (impl_echelon.l0d x0 (wrap64 (x3 + 1)) (wrap64 (x909000 + 1))) := by
  refine IsLim.unique (impl_echelon.l1lim _ _ _ _ _) ?_
  refine IsLim.shift (by rfl) ?_
  simp only [impl_echelon.l1]
  repeat' (first | exact IsLim.const _ | refine IsLim.ite ?_ ?_ | refine IsLim.bind ?_ (fun _ => ?_) | exact impl_echelon.l1lim .. | exact impl_echelon.l0lim ..)
noncomputable def impl_echelon.d (l0 : List Int) : Option (List Int) := lim (fun k => impl_echelon.f k l0)
theorem impl_echelon.lim (l0 : List Int) : IsLim (fun k => impl_echelon.f k l0) (impl_echelon.d l0) := lim_spec (fun k => impl_echelon.mono l0 k)
theorem impl_echelon.d_eq (l0 : List Int) : impl_echelon.d l0 = (slices_Clone_int64_int64.f l0).bind fun t905 => (impl_echelon.l0d t905 0 0) := by
  refine IsLim.unique (impl_echelon.lim _) ?_
  unfold impl_echelon.f
  repeat' (first | exact IsLim.const _ | refine IsLim.ite ?_ ?_ | refine IsLim.bind ?_ (fun _ => ?_) | exact impl_echelon.l0lim ..)
noncomputable def impl_Field_values.l0d (x1 : List Int) (x7 : List Int) (x11 : List Int) (x12 : Int) (x13 : Int) (x928000 : Int) (x928001 : Int) : Option (List Int) := lim (fun k => impl_Field_values.l0 k x1 x7 x11 x12 x13 x928000 x928001)
theorem impl_Field_values.l0lim (x1 : List Int) (x7 : List Int) (x11 : List Int) (x12 : Int) (x13 : Int) (x928000 : Int) (x928001 : Int) : IsLim (fun k => impl_Field_values.l0 k x1 x7 x11 x12 x13 x928000 x928001) (impl_Field_values.l0d x1 x7 x11 x12 x13 x928000 x928001) := lim_spec (fun k => (impl_Field_values.mono_l k) x1 x7 x11 x12 x13 x928000 x928001)
theorem impl_Field_values.l0d_eq (x1 : List Int) (x7 : List Int) (x11 : List Int) (x12 : Int) (x13 : Int) (x928000 : Int) (x928001 : Int) : impl_Field_values.l0d x1 x7 x11 x12 x13 x928000 x928001 = if x13 < x12 then (if 0 ≤ x13 then (if x13 < (x11.length : Int) then ((impl_Field_value.d x928000 x928001 x1 (rd x11 x13)).bind fun t932 => (if x7.length < 17592186044416 then (impl_Field_values.l0d x1 (x7 ++ [t932]) x11 x12 (wrap64 (x13 + 1)) x928000 x928001) else (none))) else (none)) else (none)) else (some x7) := by
  refine IsLim.unique (impl_Field_values.l0lim _ _ _ _ _ _ _) ?_
  refine IsLim.shift (by rfl) ?_
  simp only [impl_Field_values.l0]
  repeat' (first | exact IsLim.const _ | refine IsLim.ite ?_ ?_ | refine IsLim.bind ?_ (fun _ => ?_) | exact impl_Field_value.lim .. | exact impl_Field_values.l0lim ..)
noncomputable def impl_Field_values.d (a0_0 : Int) (a0_1 : Int) (l1 : List Int) (l2 : List Int) : Option (List Int) := lim (fun k => impl_Field_values.f k a0_0 a0_1 l1 l2)
theorem impl_Field_values.lim (a0_0 : Int) (a0_1 : Int) (l1 : List Int) (l2 : List Int) : IsLim (fun k => impl_Field_values.f k a0_0 a0_1 l1 l2) (impl_Field_values.d a0_0 a0_1 l1 l2) := lim_spec (fun k => impl_Field_values.mono a0_0 a0_1 l1 l2 k)
theorem impl_Field_values.d_eq (a0_0 : Int) (a0_1 : Int) (l1 : List Int) (l2 : List Int) : impl_Field_values.d a0_0 a0_1 l1 l2 = impl_Field_values.l0d l1 (([] : List Int)) l2 (l2.length : Int) 0 a0_0 a0_1 := by
  refine IsLim.unique (impl_Field_values.lim _ _ _ _) ?_
  unfold impl_Field_values.f
  repeat' (first | exact IsLim.const _ | refine IsLim.ite ?_ ?_ | refine IsLim.bind ?_ (fun _ => ?_) | exact impl_Field_values.l0lim ..)
noncomputable def impl_Field_units.l0d (x3 : List Int) (x7 : Int) (x8 : Int) : Option (List Int) := lim (fun k => impl_Field_units.l0 k x3 x7 x8)
theorem impl_Field_units.l0lim (x3 : List Int) (x7 : Int) (x8 : Int) : IsLim (fun k => impl_Field_units.l0 k x3 x7 x8) (impl_Field_units.l0d x3 x7 x8) := lim_spec (fun k => (impl_Field_units.mono_l k) x3 x7 x8)
theorem impl_Field_units.l0d_eq (x3 : List Int) (x7 : Int) (x8 : Int) : impl_Field_units.l0d x3 x7 x8 = if x8 < x7 then (if 0 ≤ x8 then (if x3.length < 17592186044416 then (impl_Field_units.l0d (x3 ++ [shl .i64 1 x8]) x7 (wrap64 (x8 + 1))) else (none)) else (none)) else (some x3) := by
  refine IsLim.unique (impl_Field_units.l0lim _ _ _) ?_
  refine IsLim.shift (by rfl) ?_
  simp only [impl_Field_units.l0]
  repeat' (first | exact IsLim.const _ | refine IsLim.ite ?_ ?_ | refine IsLim.bind ?_ (fun _ => ?_) | exact impl_Field_units.l0lim ..)
noncomputable def impl_Field_units.d (a0_0 : Int) (a0_1 : Int) : Option (List Int) := lim (fun k => impl_Field_units.f k a0_0 a0_1)
theorem impl_Field_units.lim (a0_0 : Int) (a0_1 : Int) : IsLim (fun k => impl_Field_units.f k a0_0 a0_1) (impl_Field_units.d a0_0 a0_1) := lim_spec (fun k => impl_Field_units.mono a0_0 a0_1 k)
theorem impl_Field_units.d_eq (a0_0 : Int) (a0_1 : Int) : impl_Field_units.d a0_0 a0_1 = impl_Field_units.l0d (([] : List Int)) a0_0 0 := by
  refine IsLim.unique (impl_Field_units.lim _ _) ?_
  unfold impl_Field_units.f
  repeat' (first | exact IsLim.const _ | refine IsLim.ite ?_ ?_ | refine IsLim.bind ?_ (fun _ => ?_) | exact impl_Field_units.l0lim ..)
noncomputable def impl_RankOfLinear.d (a0_0 : Int) (a0_1 : Int) (l1 : List Int) : Option (Int × Int) := lim (fun k => impl_RankOfLinear.f k a0_0 a0_1 l1)
theorem impl_RankOfLinear.lim (a0_0 : Int) (a0_1 : Int) (l1 : List Int) : IsLim (fun k => impl_RankOfLinear.f k a0_0 a0_1 l1) (impl_RankOfLinear.d a0_0 a0_1 l1) := lim_spec (fun k => impl_RankOfLinear.mono a0_0 a0_1 l1 k)
theorem impl_RankOfLinear.d_eq (a0_0 : Int) (a0_1 : Int) (l1 : List Int) : impl_RankOfLinear.d a0_0 a0_1 l1 = (impl_Field_linearCode.d a0_0 a0_1 (([l1] : List (List Int)))).bind fun t947 => (if t947 = 0 then ((impl_Field_units.d a0_0 a0_1).bind fun t948 => ((impl_Field_values.d a0_0 a0_1 l1 t948).bind fun t951 => ((impl_echelon.d t951).bind fun t954 => ((impl_size_int64.f t954).bind fun t957 => (some (t957, 0)))))) else (some (0, t947))) := by
  refine IsLim.unique (impl_RankOfLinear.lim _ _ _) ?_
  unfold impl_RankOfLinear.f
  repeat' (first | exact IsLim.const _ | refine IsLim.ite ?_ ?_ | refine IsLim.bind ?_ (fun _ => ?_) | exact impl_Field_linearCode.lim .. | exact impl_Field_units.lim .. | exact impl_Field_values.lim .. | exact impl_echelon.lim ..)
noncomputable def laws_a2Has.l0d (x0 : List Int) (x1 : Int) (x5 : Int) : Option (Bool) := lim (fun k => laws_a2Has.l0 k x0 x1 x5)
theorem laws_a2Has.l0lim (x0 : List Int) (x1 : Int) (x5 : Int) : IsLim (fun k => laws_a2Has.l0 k x0 x1 x5) (laws_a2Has.l0d x0 x1 x5) := lim_spec (fun k => (laws_a2Has.mono_l k) x0 x1 x5)
theorem laws_a2Has.l0d_eq (x0 : List Int) (x1 : Int) (x5 : Int) : laws_a2Has.l0d x0 x1 x5 = if x5 < (x0.length : Int) then (if 0 ≤ x5 then (if (rd x0 x5) = x1 then (some true) else (laws_a2Has.l0d x0 x1 (wrap64 (x5 + 1)))) else (none)) else (some false) := by
  refine IsLim.unique (laws_a2Has.l0lim _ _ _) ?_
  refine IsLim.shift (by rfl) ?_
  simp only [laws_a2Has.l0]
  repeat' (first | exact IsLim.const _ | refine IsLim.ite ?_ ?_ | refine IsLim.bind ?_ (fun _ => ?_) | exact laws_a2Has.l0lim ..)
noncomputable def laws_a2Has.d (l0 : List Int) (a1 : Int) : Option (Bool) := lim (fun k => laws_a2Has.f k l0 a1)
theorem laws_a2Has.lim (l0 : List Int) (a1 : Int) : IsLim (fun k => laws_a2Has.f k l0 a1) (laws_a2Has.d l0 a1) := lim_spec (fun k => laws_a2Has.mono l0 a1 k)
theorem laws_a2Has.d_eq (l0 : List Int) (a1 : Int) : laws_a2Has.d l0 a1 = laws_a2Has.l0d l0 a1 0 := by
  refine IsLim.unique (laws_a2Has.lim _ _) ?_
  unfold laws_a2Has.f
  repeat' (first | exact IsLim.const _ | refine IsLim.ite ?_ ?_ | refine IsLim.bind ?_ (fun _ => ?_) | exact laws_a2Has.l0lim ..)
noncomputable def impl_Field_compose.j0d (x1 : List Int) (x2 : List Int) (x19 : Bool) (x266000 : Int) (x266001 : Int) : Option (List Int) := lim (fun k => impl_Field_compose.j0 k x1 x2 x19 x266000 x266001)
theorem impl_Field_compose.j0lim (x1 : List Int) (x2 : List Int) (x19 : Bool) (x266000 : Int) (x266001 : Int) : IsLim (fun k => impl_Field_compose.j0 k x1 x2 x19 x266000 x266001) (impl_Field_compose.j0d x1 x2 x19 x266000 x266001) := lim_spec (fun k => (impl_Field_compose.mono_l k).1 x1 x2 x19 x266000 x266001)
noncomputable def impl_Field_compose.l0d (x2 : List Int) (x7 : List Int) (x27 : List Int) (x28 : Int) (x29 : Int) (x266000 : Int) (x266001 : Int) : Option (List Int) := lim (fun k => impl_Field_compose.l0 k x2 x7 x27 x28 x29 x266000 x266001)
theorem impl_Field_compose.l0lim (x2 : List Int) (x7 : List Int) (x27 : List Int) (x28 : Int) (x29 : Int) (x266000 : Int) (x266001 : Int) : IsLim (fun k => impl_Field_compose.l0 k x2 x7 x27 x28 x29 x266000 x266001) (impl_Field_compose.l0d x2 x7 x27 x28 x29 x266000 x266001) := lim_spec (fun k => (impl_Field_compose.mono_l k).2.1 x2 x7 x27 x28 x29 x266000 x266001)
noncomputable def impl_Field_compose.l1d (x2 : List Int) (x7 : List Int) (x8 : Int) (x9 : Int) (x27 : List Int) (x28 : Int) (x29 : Int) (x34 : List Int) (x35 : Int) (x36 : Int) (x266000 : Int) (x266001 : Int) : Option (List Int) := lim (fun k => impl_Field_compose.l1 k x2 x7 x8 x9 x27 x28 x29 x34 x35 x36 x266000 x266001)
theorem impl_Field_compose.l1lim (x2 : List Int) (x7 : List Int) (x8 : Int) (x9 : Int) (x27 : List Int) (x28 : Int) (x29 : Int) (x34 : List Int) (x35 : Int) (x36 : Int) (x266000 : Int) (x266001 : Int) : IsLim (fun k => impl_Field_compose.l1 k x2 x7 x8 x9 x27 x28 x29 x34 x35 x36 x266000 x266001) (impl_Field_compose.l1d x2 x7 x8 x9 x27 x28 x29 x34 x35 x36 x266000 x266001) := lim_spec (fun k => (impl_Field_compose.mono_l k).2.2 x2 x7 x8 x9 x27 x28 x29 x34 x35 x36 x266000 x266001)
theorem impl_Field_compose.j0d_eq (x1 : List Int) (x2 : List Int) (x19 : Bool) (x266000 : Int) (x266001 : Int) : impl_Field_compose.j0d x1 x2 x19 x266000 x266001 = if x19 = true then (some ([] : List Int)) else (if 0 ≤ (wrap64 ((wrap64 ((x1.length : Int) + (x2.length : Int))) - 1)) then (if (wrap64 ((wrap64 ((x1.length : Int) + (x2.length : Int))) - 1) : Int).toNat ≤ 35184372088832 then (impl_Field_compose.l0d x2 (List.replicate (wrap64 ((wrap64 ((x1.length : Int) + (x2.length : Int))) - 1) : Int).toNat 0) x1 (x1.length : Int) 0 x266000 x266001) else (none)) else (none)) := by
  refine IsLim.unique (impl_Field_compose.j0lim _ _ _ _ _) ?_
  refine IsLim.shift (by rfl) ?_
  simp only [impl_Field_compose.j0]
  repeat' (first | exact IsLim.const _ | refine IsLim.ite ?_ ?_ | refine IsLim.bind ?_ (fun _ => ?_) | exact impl_Field_compose.l0lim ..)
theorem impl_Field_compose.l0d_eq (x2 : List Int) (x7 : List Int) (x27 : List Int) (x28 : Int) (x29 : Int) (x266000 : Int) (x266001 : Int) : impl_Field_compose.l0d x2 x7 x27 x28 x29 x266000 x266001 = if x29 < x28 then (if 0 ≤ x29 then (if x29 < (x27.length : Int) then (impl_Field_compose.l1d x2 x7 x29 (rd x27 x29) x27 x28 x29 x2 (x2.length : Int) 0 x266000 x266001) else (none)) else (none)) else ((impl_trim.d x7).bind fun t269 => (some t269)) := by
  refine IsLim.unique (impl_Field_compose.l0lim _ _ _ _ _ _ _) ?_
  refine IsLim.shift (by rfl) ?_
  simp only [impl_Field_compose.l0]
  repeat' (first | exact IsLim.const _ | refine IsLim.ite ?_ ?_ | refine IsLim.bind ?_ (fun _ => ?_) | exact impl_trim.lim .. | exact impl_Field_compose.l1lim ..)
theorem impl_Field_compose.l1d_eq (x2 : List Int) (x7 : List Int) (x8 : Int) (x9 : Int) (x27 : List Int) (x28 : Int) (x29 : Int) (x34 : List Int) (x35 : Int) (x36 : Int) (x266000 : Int) (x266001 : Int) : impl_Field_compose.l1d x2 x7 x8 x9 x27 x28 x29 x34 x35 x36 x266000 x266001 = if x36 < x35 then (if 0 ≤ x36 then (if x36 < (x34.length : Int) then (if 0 ≤ (wrap64 (x8 + x36)) then (if (wrap64 (x8 + x36)) < (x7.length : Int) then ((impl_Field_square.d x266000 x266001 (rd x34 x36) x8).bind fun t275 => ((impl_Field_mul.d x266000 x266001 x9 t275).bind fun t276 => (impl_Field_compose.l1d x2 (x7.set ((wrap64 (x8 + x36)) : Int).toNat (Go.bits .xor .i64 (rd x7 (wrap64 (x8 + x36))) t276)) x8 x9 x27 x28 x29 x34 x35 (wrap64 (x36 + 1)) x266000 x266001))) else (none)) else (none)) else (none)) else (none)) else (impl_Field_compose.l0d x2 x7 x27 x28 (wrap64 (x29 + 1)) x266000 x266001) := by
  refine IsLim.unique (impl_Field_compose.l1lim _ _ _ _ _ _ _ _ _ _ _ _) ?_
  refine IsLim.shift (by rfl) ?_
  simp only [impl_Field_compose.l1]
  repeat' (first | exact IsLim.const _ | refine IsLim.ite ?_ ?_ | refine IsLim.bind ?_ (fun _ => ?_) | exact impl_Field_square.lim .. | exact impl_Field_mul.lim .. | exact impl_Field_compose.l1lim .. | exact impl_Field_compose.l0lim ..)
noncomputable def impl_Field_compose.d (a0_0 : Int) (a0_1 : Int) (l1 : List Int) (l2 : List Int) : Option (List Int) := lim (fun k => impl_Field_compose.f k a0_0 a0_1 l1 l2)
theorem impl_Field_compose.lim (a0_0 : Int) (a0_1 : Int) (l1 : List Int) (l2 : List Int) : IsLim (fun k => impl_Field_compose.f k a0_0 a0_1 l1 l2) (impl_Field_compose.d a0_0 a0_1 l1 l2) := lim_spec (fun k => impl_Field_compose.mono a0_0 a0_1 l1 l2 k)
theorem impl_Field_compose.d_eq (a0_0 : Int) (a0_1 : Int) (l1 : List Int) (l2 : List Int) : impl_Field_compose.d a0_0 a0_1 l1 l2 = if (l1.length : Int) = 0 then (impl_Field_compose.j0d l1 l2 true a0_0 a0_1) else (impl_Field_compose.j0d l1 l2 ((l2.length : Int) == 0) a0_0 a0_1) := by
  refine IsLim.unique (impl_Field_compose.lim _ _ _ _) ?_
  unfold impl_Field_compose.f
  repeat' (first | exact IsLim.const _ | refine IsLim.ite ?_ ?_ | refine IsLim.bind ?_ (fun _ => ?_) | exact impl_Field_compose.j0lim ..)
noncomputable def impl_plus.l0d (x5 : List Int) (x17 : List Int) (x18 : Int) (x19 : Int) : Option (List Int) := lim (fun k => impl_plus.l0 k x5 x17 x18 x19)
theorem impl_plus.l0lim (x5 : List Int) (x17 : List Int) (x18 : Int) (x19 : Int) : IsLim (fun k => impl_plus.l0 k x5 x17 x18 x19) (impl_plus.l0d x5 x17 x18 x19) := lim_spec (fun k => (impl_plus.mono_l k) x5 x17 x18 x19)
theorem impl_plus.l0d_eq (x5 : List Int) (x17 : List Int) (x18 : Int) (x19 : Int) : impl_plus.l0d x5 x17 x18 x19 = if x19 < x18 then (if 0 ≤ x19 then (if x19 < (x17.length : Int) then (if x19 < (x5.length : Int) then (impl_plus.l0d (x5.set (x19 : Int).toNat (Go.bits .xor .i64 (rd x5 x19) (rd x17 x19))) x17 x18 (wrap64 (x19 + 1))) else (none)) else (none)) else (none)) else ((impl_trim.d x5).bind fun t285 => (some t285)) := by
  refine IsLim.unique (impl_plus.l0lim _ _ _ _) ?_
  refine IsLim.shift (by rfl) ?_
  simp only [impl_plus.l0]
  repeat' (first | exact IsLim.const _ | refine IsLim.ite ?_ ?_ | refine IsLim.bind ?_ (fun _ => ?_) | exact impl_trim.lim .. | exact impl_plus.l0lim ..)
noncomputable def impl_plus.d (l0 : List Int) (l1 : List Int) : Option (List Int) := lim (fun k => impl_plus.f k l0 l1)
theorem impl_plus.lim (l0 : List Int) (l1 : List Int) : IsLim (fun k => impl_plus.f k l0 l1) (impl_plus.d l0 l1) := lim_spec (fun k => impl_plus.mono l0 l1 k)
theorem impl_plus.d_eq (l0 : List Int) (l1 : List Int) : impl_plus.d l0 l1 = if 0 ≤ (mx (l0.length : Int) (l1.length : Int)) then (if (mx (l0.length : Int) (l1.length : Int) : Int).toNat ≤ 35184372088832 then ((some (List.replicate (mx (l0.length : Int) (l1.length : Int) : Int).toNat 0 : List Int)).bind fun y278 => (if (l0.length : Int) ≤ (y278.length : Int) then (impl_plus.l0d (l0 ++ y278.drop l0.length) l1 (l1.length : Int) 0) else (none))) else (none)) else (none) := by
  refine IsLim.unique (impl_plus.lim _ _) ?_
  unfold impl_plus.f
  repeat' (first | exact IsLim.const _ | refine IsLim.ite ?_ ?_ | refine IsLim.bind ?_ (fun _ => ?_) | exact impl_plus.l0lim ..)
noncomputable def impl_ComposeLinear.d (a0_0 : Int) (a0_1 : Int) (l1 : List Int) (l2 : List Int) : Option (List Int × Int) := lim (fun k => impl_ComposeLinear.f k a0_0 a0_1 l1 l2)
theorem impl_ComposeLinear.lim (a0_0 : Int) (a0_1 : Int) (l1 : List Int) (l2 : List Int) : IsLim (fun k => impl_ComposeLinear.f k a0_0 a0_1 l1 l2) (impl_ComposeLinear.d a0_0 a0_1 l1 l2) := lim_spec (fun k => impl_ComposeLinear.mono a0_0 a0_1 l1 l2 k)
theorem impl_ComposeLinear.d_eq (a0_0 : Int) (a0_1 : Int) (l1 : List Int) (l2 : List Int) : impl_ComposeLinear.d a0_0 a0_1 l1 l2 = (impl_Field_linearCode.d a0_0 a0_1 (([l1, l2] : List (List Int)))).bind fun t630 => (if t630 = 0 then ((impl_Field_compose.d a0_0 a0_1 l1 l2).bind fun t631 => (if (t631.length : Int) > 12 then (some (([] : List Int), 3)) else (some (t631, 0)))) else (some (([] : List Int), t630))) := by
  refine IsLim.unique (impl_ComposeLinear.lim _ _ _ _) ?_
  unfold impl_ComposeLinear.f
  repeat' (first | exact IsLim.const _ | refine IsLim.ite ?_ ?_ | refine IsLim.bind ?_ (fun _ => ?_) | exact impl_Field_linearCode.lim .. | exact impl_Field_compose.lim ..)
noncomputable def impl_SumLinear.d (a0_0 : Int) (a0_1 : Int) (l1 : List Int) (l2 : List Int) : Option (List Int × Int) := lim (fun k => impl_SumLinear.f k a0_0 a0_1 l1 l2)
theorem impl_SumLinear.lim (a0_0 : Int) (a0_1 : Int) (l1 : List Int) (l2 : List Int) : IsLim (fun k => impl_SumLinear.f k a0_0 a0_1 l1 l2) (impl_SumLinear.d a0_0 a0_1 l1 l2) := lim_spec (fun k => impl_SumLinear.mono a0_0 a0_1 l1 l2 k)
theorem impl_SumLinear.d_eq (a0_0 : Int) (a0_1 : Int) (l1 : List Int) (l2 : List Int) : impl_SumLinear.d a0_0 a0_1 l1 l2 = (impl_Field_linearCode.d a0_0 a0_1 (([l1, l2] : List (List Int)))).bind fun t638 => (if t638 = 0 then ((impl_plus.d l1 l2).bind fun t639 => (some (t639, 0))) else (some (([] : List Int), t638))) := by
  refine IsLim.unique (impl_SumLinear.lim _ _ _ _) ?_
  unfold impl_SumLinear.f
  repeat' (first | exact IsLim.const _ | refine IsLim.ite ?_ ?_ | refine IsLim.bind ?_ (fun _ => ?_) | exact impl_Field_linearCode.lim .. | exact impl_plus.lim ..)
noncomputable def laws_FnLinearMaps.j0d (x6 : Int) (x7 : List Int) (x8 : List Int) (x9 : Int) (x11 : Int) (x17 : Int) (x119 : Bool) (x963000 : Int) (x963001 : Int) : Option (Bool) := lim (fun k => laws_FnLinearMaps.j0 k x6 x7 x8 x9 x11 x17 x119 x963000 x963001)
theorem laws_FnLinearMaps.j0lim (x6 : Int) (x7 : List Int) (x8 : List Int) (x9 : Int) (x11 : Int) (x17 : Int) (x119 : Bool) (x963000 : Int) (x963001 : Int) : IsLim (fun k => laws_FnLinearMaps.j0 k x6 x7 x8 x9 x11 x17 x119 x963000 x963001) (laws_FnLinearMaps.j0d x6 x7 x8 x9 x11 x17 x119 x963000 x963001) := lim_spec (fun k => (laws_FnLinearMaps.mono_l k).1 x6 x7 x8 x9 x11 x17 x119 x963000 x963001)
noncomputable def laws_FnLinearMaps.j1d (x6 : Int) (x7 : List Int) (x9 : Int) (x11 : Int) (x17 : Int) (x19 : List Int) (x21 : List Int) (x23 : List Int) (x174 : Bool) (x963000 : Int) (x963001 : Int) : Option (Bool) := lim (fun k => laws_FnLinearMaps.j1 k x6 x7 x9 x11 x17 x19 x21 x23 x174 x963000 x963001)
theorem laws_FnLinearMaps.j1lim (x6 : Int) (x7 : List Int) (x9 : Int) (x11 : Int) (x17 : Int) (x19 : List Int) (x21 : List Int) (x23 : List Int) (x174 : Bool) (x963000 : Int) (x963001 : Int) : IsLim (fun k => laws_FnLinearMaps.j1 k x6 x7 x9 x11 x17 x19 x21 x23 x174 x963000 x963001) (laws_FnLinearMaps.j1d x6 x7 x9 x11 x17 x19 x21 x23 x174 x963000 x963001) := lim_spec (fun k => (laws_FnLinearMaps.mono_l k).2 x6 x7 x9 x11 x17 x19 x21 x23 x174 x963000 x963001)
theorem laws_FnLinearMaps.j0d_eq (x6 : Int) (x7 : List Int) (x8 : List Int) (x9 : Int) (x11 : Int) (x17 : Int) (x119 : Bool) (x963000 : Int) (x963001 : Int) : laws_FnLinearMaps.j0d x6 x7 x8 x9 x11 x17 x119 x963000 x963001 = if x119 = true then (some false) else ((impl_SumLinear.d x963000 x963001 x7 x8).bind fun bt985 => ((impl_ComposeLinear.d x963000 x963001 x7 x8).bind fun bt989 => ((impl_FoldLinear.d x963000 x963001 x7).bind fun bt993 => (if bt985.2 = 0 then (if bt989.2 = 0 then (if bt993.2 = 0 then ((spec_ValidLinear.d x963000 x963001 bt985.1).bind fun t997 => (if t997 = true then ((spec_ValidLinear.d x963000 x963001 bt989.1).bind fun t998 => (if t998 = true then ((spec_ValidLinear.d x963000 x963001 bt993.1).bind fun t999 => (if t999 = true then (laws_FnLinearMaps.j1d x6 x7 x9 x11 x17 bt985.1 bt989.1 bt993.1 (decide ((bt993.1.length : Int) > x963000)) x963000 x963001) else (laws_FnLinearMaps.j1d x6 x7 x9 x11 x17 bt985.1 bt989.1 bt993.1 true x963000 x963001))) else (laws_FnLinearMaps.j1d x6 x7 x9 x11 x17 bt985.1 bt989.1 bt993.1 true x963000 x963001))) else (laws_FnLinearMaps.j1d x6 x7 x9 x11 x17 bt985.1 bt989.1 bt993.1 true x963000 x963001))) else (laws_FnLinearMaps.j1d x6 x7 x9 x11 x17 bt985.1 bt989.1 bt993.1 true x963000 x963001)) else (laws_FnLinearMaps.j1d x6 x7 x9 x11 x17 bt985.1 bt989.1 bt993.1 true x963000 x963001)) else (laws_FnLinearMaps.j1d x6 x7 x9 x11 x17 bt985.1 bt989.1 bt993.1 true x963000 x963001))))) := by
  refine IsLim.unique (laws_FnLinearMaps.j0lim _ _ _ _ _ _ _ _ _) ?_
  refine IsLim.shift (by rfl) ?_
  simp only [laws_FnLinearMaps.j0]
  repeat' (first | exact IsLim.const _ | refine IsLim.ite ?_ ?_ | refine IsLim.bind ?_ (fun _ => ?_) | exact impl_SumLinear.lim .. | exact impl_ComposeLinear.lim .. | exact impl_FoldLinear.lim .. | exact spec_ValidLinear.lim .. | exact laws_FnLinearMaps.j1lim ..)
theorem laws_FnLinearMaps.j1d_eq (x6 : Int) (x7 : List Int) (x9 : Int) (x11 : Int) (x17 : Int) (x19 : List Int) (x21 : List Int) (x23 : List Int) (x174 : Bool) (x963000 : Int) (x963001 : Int) : laws_FnLinearMaps.j1d x6 x7 x9 x11 x17 x19 x21 x23 x174 x963000 x963001 = if x174 = true then (some false) else ((impl_ValueOf.d x963000 x963001 x19 x9).bind fun bt1000 => ((impl_ValueOf.d x963000 x963001 x21 x9).bind fun bt1002 => ((impl_ValueOf.d x963000 x963001 x7 x17).bind fun bt1004 => ((impl_ValueOf.d x963000 x963001 x23 x9).bind fun bt1006 => ((impl_RootsOf.d x963000 x963001 x7).bind fun bt1008 => ((impl_RankOfLinear.d x963000 x963001 x7).bind fun bt1012 => (if bt1000.2 = 0 then (if bt1002.2 = 0 then (if bt1004.2 = 0 then (if bt1006.2 = 0 then (if bt1008.2 = 0 then (if bt1012.2 = 0 then (if bt1000.1 = (Go.bits .xor .i64 x11 x17) then (if bt1002.1 = bt1004.1 then (if bt1006.1 = x11 then (if bt1012.1 < 0 then (some false) else (if bt1012.1 > x963000 then (some false) else (if 0 ≤ (IntKind.u64.wrap (bt1012.1)) then (if (bt1008.1.length : Int) = (shr .i64 x6 (IntKind.u64.wrap (bt1012.1))) then ((laws_a2Has.d bt1008.1 x9).bind fun t1014 => (if (t1014 == (x11 == 0)) = true then (if (x7.length : Int) = 0 then (some true) else (if 0 ≤ (IntKind.u64.wrap (wrap64 ((x7.length : Int) - 1))) then (some (decide ((bt1008.1.length : Int) ≤ (shl .i64 1 (IntKind.u64.wrap (wrap64 ((x7.length : Int) - 1))))))) else (none))) else (some false))) else (some false)) else (none)))) else (some false)) else (some false)) else (some false)) else (some false)) else (some false)) else (some false)) else (some false)) else (some false)) else (some false)))))))) := by
  refine IsLim.unique (laws_FnLinearMaps.j1lim _ _ _ _ _ _ _ _ _ _ _) ?_
  refine IsLim.shift (by rfl) ?_
  simp only [laws_FnLinearMaps.j1]
  repeat' (first | exact IsLim.const _ | refine IsLim.ite ?_ ?_ | refine IsLim.bind ?_ (fun _ => ?_) | exact impl_ValueOf.lim .. | exact impl_RootsOf.lim .. | exact impl_RankOfLinear.lim .. | exact laws_a2Has.lim ..)
noncomputable def laws_FnLinearMaps.d (l0 : List Int) (l1 : List Int) : Option (Bool) := lim (fun k => laws_FnLinearMaps.f k l0 l1)
theorem laws_FnLinearMaps.lim (l0 : List Int) (l1 : List Int) : IsLim (fun k => laws_FnLinearMaps.f k l0 l1) (laws_FnLinearMaps.d l0 l1) := lim_spec (fun k => laws_FnLinearMaps.mono l0 l1 k)
theorem laws_FnLinearMaps.d_eq (l0 : List Int) (l1 : List Int) : laws_FnLinearMaps.d l0 l1 = (laws_a2Long.f l0 l1).bind fun t959 => (if t959 = true then (some true) else ((spec_A2Field.d l0).bind fun bt960 => (if 0 ≤ (IntKind.u64.wrap (bt960.1)) then ((spec_A2Linear.d l1 bt960.1 bt960.2 5).bind fun t963 => ((some (([5] : List Int) : List Int)).bind fun y966 => (if y966.length + l1.length < 140737488355328 then ((spec_A2Linear.d (y966 ++ l1) bt960.1 bt960.2 5).bind fun t972 => ((spec_A2Element.d l0 bt960.1 bt960.2 3).bind fun t975 => ((spec_A2Element.d l0 bt960.1 bt960.2 4).bind fun t976 => ((impl_ValueOf.d bt960.1 bt960.2 t963 t975).bind fun bt977 => ((impl_ValueOf.d bt960.1 bt960.2 t963 t976).bind fun bt979 => ((impl_ValueOf.d bt960.1 bt960.2 t963 (Go.bits .xor .i64 t975 t976)).bind fun bt981 => ((impl_ValueOf.d bt960.1 bt960.2 t972 t975).bind fun bt983 => (if bt977.2 = 0 then (if bt979.2 = 0 then (if bt981.2 = 0 then (if bt983.2 = 0 then (if bt981.1 = (Go.bits .xor .i64 bt977.1 bt979.1) then (if bt983.1 < 0 then (laws_FnLinearMaps.j0d (shl .i64 1 (IntKind.u64.wrap (bt960.1))) t963 t972 t975 bt977.1 bt983.1 true bt960.1 bt960.2) else (laws_FnLinearMaps.j0d (shl .i64 1 (IntKind.u64.wrap (bt960.1))) t963 t972 t975 bt977.1 bt983.1 (decide (bt983.1 ≥ (shl .i64 1 (IntKind.u64.wrap (bt960.1))))) bt960.1 bt960.2)) else (laws_FnLinearMaps.j0d (shl .i64 1 (IntKind.u64.wrap (bt960.1))) t963 t972 t975 bt977.1 bt983.1 true bt960.1 bt960.2)) else (laws_FnLinearMaps.j0d (shl .i64 1 (IntKind.u64.wrap (bt960.1))) t963 t972 t975 bt977.1 bt983.1 true bt960.1 bt960.2)) else (laws_FnLinearMaps.j0d (shl .i64 1 (IntKind.u64.wrap (bt960.1))) t963 t972 t975 bt977.1 bt983.1 true bt960.1 bt960.2)) else (laws_FnLinearMaps.j0d (shl .i64 1 (IntKind.u64.wrap (bt960.1))) t963 t972 t975 bt977.1 bt983.1 true bt960.1 bt960.2)) else (laws_FnLinearMaps.j0d (shl .i64 1 (IntKind.u64.wrap (bt960.1))) t963 t972 t975 bt977.1 bt983.1 true bt960.1 bt960.2))))))))) else (none)))) else (none)))) := by
  refine IsLim.unique (laws_FnLinearMaps.lim _ _) ?_
  unfold laws_FnLinearMaps.f
  repeat' (first | exact IsLim.const _ | refine IsLim.ite ?_ ?_ | refine IsLim.bind ?_ (fun _ => ?_) | exact spec_A2Field.lim .. | exact spec_A2Linear.lim .. | exact spec_A2Element.lim .. | exact impl_ValueOf.lim .. | exact laws_FnLinearMaps.j0lim ..)
theorem wr {x : Int} (h0 : -9223372036854775808 ≤ x) (h1 : x < 9223372036854775808) : wrap64 x = x := by
  unfold wrap64; omega
theorem wrS {i n : Nat} (h : i < n) (hn : n ≤ 17592186044416) : wrap64 ((i : Int) + 1) = ((i + 1 : Nat) : Int) := by rw [wr (by omega) (by omega)]; omega
theorem u64_id {x : Int} (h0 : 0 ≤ x) (h1 : x < 9223372036854775808) : IntKind.u64.wrap x = x := by rw [IntKind.wrap_u64]; omega
theorem down {Q : Nat → Prop} {n : Nat} (h0 : Q n) (hs : ∀ i, i < n → Q (i + 1) → Q i) : ∀ i, i ≤ n → Q i := by
  intro i hi
  obtain ⟨d, hd⟩ : ∃ d, d = n - i := ⟨_, rfl⟩
  induction d generalizing i with
  | zero => have : i = n := by omega
            exact this ▸ h0
  | succ d ih => exact hs i (by omega) (ih (i + 1) (by omega) (by omega))
theorem rd_get {l : List Int} {i : Nat} (h : i < l.length) : rd l (i : Int) = l[i] := rd_at l i h
theorem bind_some' {α β : Type} (a : α) (f : α → Option β) : (some a).bind f = f a := rfl
/-- a list built by a walk upward -/
theorem build_gen {α R : Type} {F : Int → List α → Option R} {n : Nat} {g : Nat → α} {r : Option R}
    (heq : ∀ i : Nat, i < n → ∀ acc : List α, acc.length = i → F (i : Int) acc = F ((i + 1 : Nat) : Int) (acc ++ [g i]))
    (hend : F (n : Int) ((List.range n).map g) = r) : F 0 [] = r := by
  have key : ∀ i, i ≤ n → F (i : Int) ((List.range i).map g) = r := by
    apply down
    · exact hend
    · intro i hi e
      rw [heq i hi _ (by simp), ← e, List.range_succ, List.map_append]; rfl
  exact key 0 (by omega)
/-- the first place where `q` holds, by a walk upward -/
theorem index_gen {F : Int → Option Int} {n : Nat} {q : Nat → Bool} (hend : F (n : Int) = some (-1))
    (heq : ∀ i : Nat, i < n → F (i : Int) = if q i = true then some (i : Int) else F ((i + 1 : Nat) : Int)) :
    ∃ v, F 0 = some v ∧ (decide (v ≥ 0) = !decide (∀ i, i < n → q i = false)) ∧ (0 ≤ v → v.toNat < n ∧ q v.toNat = true ∧ ∀ j, j < v.toNat → q j = false) := by
  have key : ∀ i, i ≤ n → ∃ v, F (i : Int) = some v ∧ (v ≥ 0 ↔ ¬ ∀ j, i ≤ j → j < n → q j = false) ∧ (0 ≤ v → i ≤ v.toNat ∧ v.toNat < n ∧ q v.toNat = true ∧ ∀ j, i ≤ j → j < v.toNat → q j = false) := by
    apply down
    · exact ⟨-1, hend, ⟨fun h => absurd h (by decide), fun h => absurd (fun j _ _ => by omega) h⟩, fun h => absurd h (by decide)⟩
    · intro i hi ⟨v, e, c, d⟩
      rw [heq i hi]
      by_cases hq : q i = true
      · rw [if_pos hq]
        exact ⟨i, rfl, ⟨fun _ h => (by rw [h i (by omega) hi] at hq; cases hq), fun _ => by omega⟩, fun _ => ⟨by simp, by simpa using hi, by simpa using hq, fun j h1 h2 => by simp at h2; omega⟩⟩
      · rw [if_neg hq]
        have hq' : q i = false := Bool.eq_false_iff.mpr hq
        refine ⟨v, e, c.trans ⟨fun h h' => h fun j a b => h' j (by omega) b, fun h h' => h fun j a b => ?_⟩, fun h => ?_⟩
        · rcases Nat.lt_or_ge i j with z | z
          · exact h' j z b
          · have : j = i := by omega
            rw [this, hq']
        · obtain ⟨a1, a2, a3, a4⟩ := d h
          refine ⟨by omega, a2, a3, fun j h1 h2 => ?_⟩
          rcases Nat.lt_or_ge i j with z | z
          · exact a4 j z h2
          · have : j = i := by omega
            rw [this, hq']
  obtain ⟨v, e, c, d⟩ := key 0 (by omega)
  refine ⟨v, e, ?_, fun h => ⟨(d h).2.1, (d h).2.2.1, fun j hj => (d h).2.2.2 j (by omega) hj⟩⟩
  rw [← decide_not]
  apply decide_eq_decide.mpr
  exact c.trans ⟨fun h h' => h fun j _ b => h' j b, fun h h' => h fun j b => h' j (by omega) b⟩
theorem all_gen {F : Int → Option Bool} {n : Nat} {q : Nat → Bool} (hend : F (n : Int) = some true)
    (heq : ∀ i : Nat, i < n → F (i : Int) = if q i = true then F ((i + 1 : Nat) : Int) else some false) :
    F 0 = some (decide (∀ i, i < n → q i = true)) := by
  have key : ∀ i, i ≤ n → ∃ b, F (i : Int) = some b ∧ (b = true ↔ ∀ j, i ≤ j → j < n → q j = true) := by
    apply down
    · exact ⟨true, hend, ⟨fun _ j a b => by omega, fun _ => rfl⟩⟩
    · intro i hi ⟨b, e, c⟩
      rw [heq i hi, e]
      by_cases hq : q i = true
      · rw [if_pos hq]
        refine ⟨b, rfl, c.trans ⟨fun h j a b => ?_, fun h j a b => h j (by omega) b⟩⟩
        rcases Nat.lt_or_ge i j with z | z
        · exact h j z b
        · have : j = i := by omega
          rw [this, hq]
      · rw [if_neg hq]
        exact ⟨false, rfl, ⟨(fun h => absurd h (by decide)), fun h => absurd (h i (by omega) hi) hq⟩⟩
  obtain ⟨b, e, c⟩ := key 0 (by omega)
  have e' : F 0 = some b := e
  rw [e']
  congr 1
  rw [Bool.eq_iff_iff, decide_eq_true_iff]
  exact c.trans ⟨fun h j b => h j (by omega) b, fun h j _ b => h j b⟩
theorem all_get {l : List Int} {q : Int → Bool} : decide (∀ i, i < l.length → q (rd l (i : Int)) = true) = l.all q := by
  rw [Bool.eq_iff_iff, decide_eq_true_iff, List.all_eq_true]
  constructor
  · intro h x hx
    obtain ⟨i, hi, e⟩ := List.getElem_of_mem hx
    have := h i hi
    rwa [rd_get hi, e] at this
  · intro h i hi
    rw [rd_get hi]; exact h _ (List.getElem_mem hi)
theorem wrap_nat {n : Nat} (h : n < 9223372036854775808) : IntKind.i64.wrap (n : Int) = (n : Int) := by rw [IntKind.wrap_i64]; omega
theorem bits_nat {a : Nat} (ha : a < 9223372036854775808) : (BitVec.ofInt IntKind.i64.bits (a : Int)).toNat = a := by
  show (BitVec.ofInt 64 (a : Int)).toNat = a
  rw [BitVec.ofInt_natCast, BitVec.toNat_ofNat]
  exact Nat.mod_eq_of_lt (by omega)
theorem bxor {a b : Nat} (ha : a < 9223372036854775808) (hb : b < 9223372036854775808) : Go.bits .xor .i64 (a : Int) (b : Int) = ((a ^^^ b : Nat) : Int) := by
  show IntKind.i64.wrap ((BitVec.ofInt IntKind.i64.bits (a : Int) ^^^ BitVec.ofInt IntKind.i64.bits (b : Int)).toNat : Int) = _
  rw [BitVec.toNat_xor, bits_nat ha, bits_nat hb]
  exact wrap_nat (Nat.xor_lt_two_pow (n := 63) (by omega) (by omega))
theorem band {a b : Nat} (ha : a < 9223372036854775808) (hb : b < 9223372036854775808) : Go.bits .and .i64 (a : Int) (b : Int) = ((a &&& b : Nat) : Int) := by
  show IntKind.i64.wrap ((BitVec.ofInt IntKind.i64.bits (a : Int) &&& BitVec.ofInt IntKind.i64.bits (b : Int)).toNat : Int) = _
  rw [BitVec.toNat_and, bits_nat ha, bits_nat hb]
  exact wrap_nat (Nat.and_lt_two_pow (n := 63) a (by omega))
theorem shr_nat {a c : Nat} (hc : c ≤ 64) : shr .i64 (a : Int) (c : Int) = ((a >>> c : Nat) : Int) := by
  show (a : Int) / 2 ^ min (c : Int).toNat 64 = _
  rw [Int.toNat_natCast, Nat.min_eq_left hc, Nat.shiftRight_eq_div_pow]
  simp
theorem shl_nat {a c : Nat} (hc : c ≤ 64) (h : a * 2 ^ c < 9223372036854775808) : shl .i64 (a : Int) (c : Int) = ((a * 2 ^ c : Nat) : Int) := by
  show IntKind.i64.wrap ((a : Int) * 2 ^ min (c : Int).toNat 64) = _
  rw [Int.toNat_natCast, Nat.min_eq_left hc, ← wrap_nat h]
  simp
theorem bit_test {a c : Nat} (ha : a < 9223372036854775808) (hc : c ≤ 64) : Go.bits .and .i64 (shr .i64 (a : Int) (c : Int)) 1 = if a.testBit c = true then 1 else 0 := by
  rw [shr_nat hc]
  have h1 : a >>> c < 9223372036854775808 := by
    rw [Nat.shiftRight_eq_div_pow]
    exact Nat.lt_of_le_of_lt (Nat.div_le_self _ _) ha
  have := band (a := a >>> c) (b := 1) h1 (by omega)
  rw [show ((1 : Nat) : Int) = 1 from rfl] at this
  rw [this, Nat.testBit, Nat.and_comm 1]
  rw [Nat.and_one_is_mod]
  rcases Nat.mod_two_eq_zero_or_one (a >>> c) with e | e <;> rw [e] <;> simp
theorem lt_mono {x a b : Nat} (h : x < 2 ^ a) (hab : a ≤ b) : x < 2 ^ b := Nat.lt_of_lt_of_le h (Nat.pow_le_pow_right (by omega) hab)
theorem small62 {x n : Nat} (hn : n ≤ 63) (h : x < 2 ^ n) : x < 9223372036854775808 := Nat.lt_of_lt_of_le h (Nat.le_trans (Nat.pow_le_pow_right (by omega) hn) (by decide))
/-- rows as the program holds them -/
def up (l : List Nat) : List Int := l.map fun (x : Nat) => (x : Int)
theorem up_length (l : List Nat) : (up l).length = l.length := by simp [up]
theorem up_get {l : List Nat} {i : Nat} (h : i < l.length) : rd (up l) (i : Int) = (l[i] : Int) := by
  rw [rd_get (by rw [up_length]; exact h)]; simp [up]
theorem up_set {l : List Nat} {i x : Nat} : (up l).set i (x : Int) = up (l.set i x) := by simp [up, List.map_set]
theorem up_append (l l' : List Nat) : up (l ++ l') = up l ++ up l' := by simp [up]
theorem up_drop (l : List Nat) (i : Nat) : (up l).drop i = up (l.drop i) := by simp [up, List.map_drop]
theorem up_take (l : List Nat) (i : Nat) : (up l).take i = up (l.take i) := by simp [up, List.map_take]
theorem up_inj {a b : List Nat} (h : up a = up b) : a = b := by
  unfold up at h
  exact (List.map_inj_right (f := fun (x : Nat) => (x : Int)) (fun x y e => by have e : (x : Int) = (y : Int) := e; omega)).mp h
/-- a walk upward that writes every place of a list -/
theorem map_gen {α R : Type} {F : List α → Int → R} {n : Nat} {g : Nat → α → α} {r : R} (Q : Nat → α → Prop) (l : List α) (hn : l.length = n)
    (hq : ∀ i, (h : i < l.length) → Q i l[i]) (hg : ∀ i x, Q i x → Q i (g i x))
    (heq : ∀ i : Nat, ∀ a : List α, (hi : i < a.length) → a.length = n → (∀ j, (h : j < a.length) → Q j a[j]) → (∀ j, i ≤ j → (h : j < a.length) → (h' : j < l.length) → a[j] = l[j]) →
      (∀ j, j < i → (h : j < a.length) → (h' : j < l.length) → a[j] = g j l[j]) → F a (i : Int) = F (a.set i (g i (a[i]'hi))) ((i + 1 : Nat) : Int))
    (hend : F (l.mapIdx g) (n : Int) = r) : F l 0 = r := by
  have key : ∀ i, i ≤ n → F (l.mapIdx fun j x => if j < i then g j x else x) (i : Int) = r := by
    apply down
    · have : (l.mapIdx fun j x => if j < n then g j x else x) = l.mapIdx g := by
        apply List.ext_getElem
        · simp
        · intro j h1 h2
          simp only [List.getElem_mapIdx]
          rw [if_pos (by simp at h1; omega)]
      rw [this]; exact hend
    · intro i hi e
      have hil : i < l.length := by omega
      rw [heq i _ (by simp; omega) (by simp; omega) ?_ ?_ ?_, ← e]
      · congr 1
        apply List.ext_getElem
        · simp
        · intro j h1 h2
          simp only [List.getElem_set, List.getElem_mapIdx]
          by_cases c : i = j
          · subst c; simp
          · rw [if_neg c]
            by_cases c2 : j < i
            · simp [c2, show j < i + 1 by omega]
            · simp [c2, show ¬ j < i + 1 by omega]
      · intro j h
        simp only [List.length_mapIdx] at h
        simp only [List.getElem_mapIdx]
        split
        · exact hg j _ (hq j h)
        · exact hq j h
      · intro j hij h h'
        simp only [List.getElem_mapIdx]
        rw [if_neg (by omega)]
      · intro j hij h h'
        simp only [List.getElem_mapIdx]
        rw [if_pos hij]
  have := key 0 (by omega)
  have e : (l.mapIdx fun j x => if j < 0 then g j x else x) = l := by
    apply List.ext_getElem
    · simp
    · intro j h1 h2; simp
  rw [e] at this
  exact this
theorem up_getD {ln : List Nat} {i : Nat} (h : i < ln.length) : rd (up ln) (i : Int) = ((ln.getD i 0 : Nat) : Int) := by
  rw [up_get h]; simp [List.getD, h]
theorem range_up (ln : List Nat) (f : Nat → Nat) : (List.range ln.length).map (fun i => ((f (ln.getD i 0) : Nat) : Int)) = up (ln.map f) := by
  apply List.ext_getElem
  · simp [up_length]
  · intro i h1 h2
    simp only [List.length_map, List.length_range] at h1
    simp [up, List.getD, h1]
theorem getD_mem {ln : List Nat} {i : Nat} (h : i < ln.length) : ln.getD i 0 ∈ ln := by
  have : ln.getD i 0 = ln[i] := by simp [List.getD, h]
  rw [this]; exact List.getElem_mem h
/-- a number of m places -/
def elemB (m x : Int) : Bool := decide (0 ≤ x) && decide (x < 2 ^ m.toNat)
theorem up_rangeN (n : Nat) (f : Nat → Nat) : (List.range n).map (fun k => ((f k : Nat) : Int)) = up ((List.range n).map f) := by
  unfold up; rw [List.map_map]; rfl
theorem shl_one {N : Nat} (h : N ≤ 60) : shl .i64 1 (N : Int) = ((2 ^ N : Nat) : Int) := by
  have h2 : 2 ^ N ≤ 2 ^ 60 := Nat.pow_le_pow_right (by omega) h
  have := shl_nat (a := 1) (c := N) (by omega) (by omega)
  rw [Nat.one_mul] at this
  exact this
end Go.Proofs.Ytkhjoomjjdgkjaa.P
end
section
namespace Go.Proofs.Ytkhjoomjjdgkjaa.P
set_option linter.unusedVariables false
set_option linter.unusedSimpArgs false
/-- a sum of some of the rows -/
inductive Sp (R : List Nat) : Nat → Prop
  | zero : Sp R 0
  | add {r v : Nat} : r ∈ R → Sp R v → Sp R (v ^^^ r)
theorem Sp.mem {R : List Nat} {r : Nat} (h : r ∈ R) : Sp R r := by
  have := Sp.add h Sp.zero
  rwa [Nat.zero_xor] at this
theorem Sp.xor {R : List Nat} {u v : Nat} (hu : Sp R u) (hv : Sp R v) : Sp R (u ^^^ v) := by
  induction hv with
  | zero => rwa [Nat.xor_zero]
  | add h _ ih => rw [← Nat.xor_assoc]; exact Sp.add h ih
theorem Sp.sub {R R' : List Nat} (h : ∀ r ∈ R, Sp R' r) {v : Nat} (hv : Sp R v) : Sp R' v := by
  induction hv with
  | zero => exact Sp.zero
  | add hr _ ih => exact ih.xor (h _ hr)
theorem Sp.mono {R R' : List Nat} (h : ∀ r ∈ R, r ∈ R') {v : Nat} (hv : Sp R v) : Sp R' v := hv.sub fun r hr => Sp.mem (h r hr)
theorem Sp.nil {v : Nat} (h : Sp [] v) : v = 0 := by
  cases h with
  | zero => rfl
  | add h _ => cases h
theorem Sp.cons {r : Nat} {R : List Nat} {v : Nat} (h : Sp (r :: R) v) : Sp R v ∨ Sp R (v ^^^ r) := by
  induction h with
  | zero => exact .inl .zero
  | @add s v hs _ ih =>
    rcases List.mem_cons.mp hs with rfl | hs
    · rcases ih with ih | ih
      · right; rw [Nat.xor_assoc, Nat.xor_self, Nat.xor_zero]; exact ih
      · left; exact ih
    · rcases ih with ih | ih
      · left; exact ih.add hs
      · right; rw [Nat.xor_assoc, Nat.xor_comm s r, ← Nat.xor_assoc]; exact ih.add hs
theorem Sp.bit {R : List Nat} {b : Nat} (h : ∀ r ∈ R, r.testBit b = false) {v : Nat} (hv : Sp R v) : v.testBit b = false := by
  induction hv with
  | zero => exact Nat.zero_testBit b
  | add hr _ ih => rw [Nat.testBit_xor, ih, h _ hr]; rfl
/-- reduced rows R with their leading places C, growing -/
def RED : List Nat → List Nat → Prop
  | [], [] => True
  | r :: R, c :: C => r.testBit c = true ∧ (∀ b, b < c → r.testBit b = false) ∧ (∀ d ∈ C, c < d ∧ r.testBit d = false) ∧ RED R C
  | _, _ => False
theorem RED.low {R C : List Nat} (h : RED R C) {b : Nat} (hb : ∀ d ∈ C, b < d) : ∀ r ∈ R, r.testBit b = false := by
  induction R generalizing C with
  | nil => intro r hr; cases hr
  | cons r R ih =>
    cases C with
    | nil => exact h.elim
    | cons c C =>
      obtain ⟨h1, h2, h3, h4⟩ := h
      intro s hs
      rcases List.mem_cons.mp hs with rfl | hs
      · exact h2 b (hb c (by simp))
      · exact ih h4 (fun d hd => hb d (by simp [hd])) s hs
theorem RED.zero {R C : List Nat} (h : RED R C) {v : Nat} (hv : Sp R v) (h0 : ∀ c ∈ C, v.testBit c = false) : v = 0 := by
  induction R generalizing C v with
  | nil => exact hv.nil
  | cons r R ih =>
    cases C with
    | nil => exact h.elim
    | cons c C =>
      obtain ⟨h1, h2, h3, h4⟩ := h
      have low : ∀ s ∈ R, s.testBit c = false := h4.low fun d hd => (h3 d hd).1
      rcases hv.cons with hv | hv
      · exact ih h4 hv fun d hd => h0 d (by simp [hd])
      · have := hv.bit low
        rw [Nat.testBit_xor, h1, h0 c (by simp)] at this
        cases this
theorem RED.lead {R C : List Nat} (h : RED R C) {v : Nat} (hv : Sp R v) (h0 : v ≠ 0) : ∃ c ∈ C, v.testBit c = true ∧ ∀ b, b < c → v.testBit b = false := by
  induction R generalizing C v with
  | nil => exact absurd hv.nil h0
  | cons r R ih =>
    cases C with
    | nil => exact h.elim
    | cons c C =>
      obtain ⟨h1, h2, h3, h4⟩ := h
      rcases hv.cons with hv | hv
      · obtain ⟨d, hd, a, b⟩ := ih h4 hv h0
        exact ⟨d, by simp [hd], a, b⟩
      · refine ⟨c, by simp, ?_, fun b hb => ?_⟩
        · have := hv.bit (h4.low fun d hd => (h3 d hd).1)
          rw [Nat.testBit_xor, h1] at this
          revert this; cases v.testBit c <;> simp
        · have := hv.bit (h4.low (b := b) fun d hd => Nat.lt_trans hb (h3 d hd).1)
          rw [Nat.testBit_xor, h2 b hb] at this
          revert this; cases v.testBit b <;> simp
theorem RED.nonzero {r c : Nat} (h : r.testBit c = true) : r ≠ 0 := by rintro rfl; rw [Nat.zero_testBit] at h; cases h
theorem RED.head_le {r c : Nat} {R C R' C' : List Nat} {r' c' : Nat} (h : RED (r :: R) (c :: C)) (h' : RED (r' :: R') (c' :: C'))
    (hs : ∀ v, Sp (r' :: R') v → Sp (r :: R) v) : c ≤ c' := by
  obtain ⟨d, hd, a, b⟩ := h.lead (hs r' (Sp.mem (by simp))) (RED.nonzero h'.1)
  have : c ≤ d := by
    rcases List.mem_cons.mp hd with rfl | hd
    · exact Nat.le_refl _
    · exact Nat.le_of_lt (h.2.2.1 d hd).1
  rcases Nat.lt_or_ge c' d with z | z
  · have := b c' z; rw [h'.1] at this; cases this
  · omega
theorem RED.tail {r c : Nat} {R C : List Nat} (h : RED (r :: R) (c :: C)) {v : Nat} : Sp R v ↔ (Sp (r :: R) v ∧ v.testBit c = false) := by
  have low : ∀ s ∈ R, s.testBit c = false := h.2.2.2.low fun d hd => (h.2.2.1 d hd).1
  constructor
  · intro hv; exact ⟨hv.mono fun s hs => by simp [hs], hv.bit low⟩
  · rintro ⟨hv, h0⟩
    rcases hv.cons with hv | hv
    · exact hv
    · have := hv.bit low
      rw [Nat.testBit_xor, h.1, h0] at this; cases this
theorem RED.unique {R C R' C' : List Nat} (h : RED R C) (h' : RED R' C') (hs : ∀ v, Sp R v ↔ Sp R' v) : R = R' ∧ C = C' := by
  induction R generalizing C R' C' with
  | nil =>
    cases C with
    | cons c C => exact h.elim
    | nil =>
      cases R' with
      | nil => cases C' with
        | nil => exact ⟨rfl, rfl⟩
        | cons c' C' => exact h'.elim
      | cons r' R' => cases C' with
        | nil => exact h'.elim
        | cons c' C' => exact absurd ((hs r').mpr (Sp.mem (by simp))).nil (RED.nonzero h'.1)
  | cons r R ih =>
    cases C with
    | nil => exact h.elim
    | cons c C =>
      cases R' with
      | nil => cases C' with
        | nil => exact absurd ((hs r).mp (Sp.mem (by simp))).nil (RED.nonzero h.1)
        | cons c' C' => exact h'.elim
      | cons r' R' =>
        cases C' with
        | nil => exact h'.elim
        | cons c' C' =>
          have e : c = c' := Nat.le_antisymm (h.head_le h' fun v => (hs v).mpr) (h'.head_le h fun v => (hs v).mp)
          subst e
          obtain ⟨e1, e2⟩ := ih h.2.2.2 h'.2.2.2 fun v => by rw [h.tail, h'.tail, hs v]
          subst e1 e2
          refine ⟨?_, rfl⟩
          have hz : r ^^^ r' = 0 := by
            refine h.zero (Sp.xor (Sp.mem (by simp)) ((hs r').mpr (Sp.mem (by simp)))) fun d hd => ?_
            rw [Nat.testBit_xor]
            rcases List.mem_cons.mp hd with rfl | hd
            · rw [h.1, h'.1]; rfl
            · rw [(h.2.2.1 d hd).2, (h'.2.2.1 d hd).2]; rfl
          have : r = r' := by
            have := congrArg (· ^^^ r') hz
            simp only [Nat.xor_assoc, Nat.xor_self, Nat.xor_zero, Nat.zero_xor] at this
            exact this
          rw [this]
theorem RED.snoc {R C : List Nat} (h : RED R C) {r c : Nat} (h1 : r.testBit c = true) (h2 : ∀ b, b < c → r.testBit b = false) (hC : ∀ d ∈ C, d < c) (hR : ∀ s ∈ R, s.testBit c = false) : RED (R ++ [r]) (C ++ [c]) := by
  induction R generalizing C with
  | nil =>
    cases C with
    | cons c C => exact h.elim
    | nil => exact ⟨h1, h2, (fun d hd => by cases hd), trivial⟩
  | cons s R ih =>
    cases C with
    | nil => exact h.elim
    | cons d C =>
      refine ⟨h.1, h.2.1, fun e he => ?_, ih h.2.2.2 (fun e he => hC e (by simp [he])) (fun s hs => hR s (by simp [hs]))⟩
      rcases List.mem_append.mp he with he | he
      · exact h.2.2.1 e he
      · rw [List.mem_singleton] at he
        subst he
        exact ⟨hC d (by simp), hR s (by simp)⟩
/-- a row x becomes x + r where it has the place c -/
def clr (c r x : Nat) : Nat := if x.testBit c = true then x ^^^ r else x
theorem clr_bit {c r x : Nat} (h : r.testBit c = true) : (clr c r x).testBit c = false := by
  unfold clr
  split
  · rename_i hx; rw [Nat.testBit_xor, hx, h]; rfl
  · rename_i hx; exact Bool.eq_false_iff.mpr hx
theorem clr_low {c r x b : Nat} (h : r.testBit b = false) : (clr c r x).testBit b = x.testBit b := by
  unfold clr
  split
  · rw [Nat.testBit_xor, h, Bool.xor_false]
  · rfl
theorem clr_lt {c r x n : Nat} (hr : r < 2 ^ n) (hx : x < 2 ^ n) : clr c r x < 2 ^ n := by
  unfold clr
  split
  · exact Nat.xor_lt_two_pow hx hr
  · exact hx
theorem RED.clr {R C : List Nat} (h : RED R C) {r c : Nat} (hr : ∀ d ∈ C, r.testBit d = false) (hl : ∀ d ∈ C, ∀ b, b < d → r.testBit b = false) : RED (R.map (clr c r)) C := by
  induction R generalizing C with
  | nil => exact h
  | cons s R ih =>
    cases C with
    | nil => exact h.elim
    | cons d C =>
      refine ⟨?_, fun b hb => ?_, fun e he => ⟨(h.2.2.1 e he).1, ?_⟩, ih h.2.2.2 (fun e he => hr e (by simp [he])) (fun e he => hl e (by simp [he]))⟩
      · rw [clr_low (hr d (by simp))]; exact h.1
      · rw [clr_low (hl d (by simp) b hb)]; exact h.2.1 b hb
      · rw [clr_low (hr e (by simp [he]))]; exact (h.2.2.1 e he).2
theorem Sp.clr {R : List Nat} {c r x : Nat} (hr : Sp R r) (hx : Sp R x) : Sp R (clr c r x) := by
  unfold P.clr
  split
  · exact hx.xor hr
  · exact hx
theorem Sp.of_clr {R : List Nat} {c r x : Nat} (hr : Sp R r) (hx : Sp R (P.clr c r x)) : Sp R x := by
  unfold P.clr at hx
  split at hx
  · have := hx.xor hr
    rwa [Nat.xor_assoc, Nat.xor_self, Nat.xor_zero] at this
  · exact hx
end Go.Proofs.Ytkhjoomjjdgkjaa.P
end
section
namespace Go.Proofs.Ytkhjoomjjdgkjaa.P
open Go.RowKit Go.Proofs.YtkhjoomjjdgkjaaW.PrintWords Go.Proofs.YtkhjoomjjdgkjaaW.PrintLast Go.Proofs.YtkhjoomjjdgkjaaW.PrintMore
set_option linter.unusedVariables false
set_option linter.unusedSimpArgs false
/-- the irreducible polynomials of degree 1 .. 5, as numbers -/
def irrs : List Int := [2, 3, 7, 11, 13, 19, 25, 31, 37, 41, 47, 55, 59, 61]
def irrB (p : Int) : Bool := irrs.contains p
/-- the fields: degree and polynomial -/
def fields14 : List (Int × Int) := [(1, 2), (1, 3), (2, 7), (3, 11), (3, 13), (4, 19), (4, 25), (4, 31), (5, 37), (5, 41), (5, 47), (5, 55), (5, 59), (5, 61)]
def validB (m p : Int) : Bool := fields14.contains (m, p)
theorem of_range {P : Int → Prop} (n : Nat) (lo : Int) (h : ∀ i, i < n → P (lo + i)) : ∀ x, lo ≤ x → x < lo + n → P x := by
  intro x h0 h1
  have := h (x - lo).toNat (by omega)
  rwa [show lo + ((x - lo).toNat : Int) = x by omega] at this
theorem i_irr_small : ∀ i, i < 62 → impl_IsIrreducible.f 80 (2 + (i : Nat)) = some (irrB (2 + (i : Nat))) := by decide +kernel
theorem irrB_big {p : Int} (h : p < 2 ∨ 64 ≤ p) : irrB p = false := by
  have : p ∉ irrs := by
    have hb : ∀ q ∈ irrs, 2 ≤ q ∧ q < 64 := by decide +kernel
    intro hp
    have := hb p hp
    omega
  unfold irrB
  rw [List.contains_eq_mem, decide_eq_false this]
theorem i_IsIrreducible_v (p : Int) : impl_IsIrreducible.d p = some (irrB p) := by
  by_cases h : p < 2
  · rw [impl_IsIrreducible.d_eq, if_pos h, impl_IsIrreducible.j0d_eq, if_pos rfl, irrB_big (.inl h)]
  · by_cases h2 : p < 64
    · have := of_range (P := fun p => impl_IsIrreducible.f 80 p = some (irrB p)) 62 2 i_irr_small p (by omega) (by omega)
      exact ((impl_IsIrreducible.lim p).2 _).mpr ⟨_, this⟩
    · rw [impl_IsIrreducible.d_eq, if_neg h, impl_IsIrreducible.j0d_eq, if_pos (by simp; omega), irrB_big (.inr (by omega))]
theorem irrB_mem {p : Int} (h : irrB p = true) : p ∈ irrs := by simpa [irrB] using h
theorem i_deg_irr {p : Int} (h : irrB p = true) : ∀ m, ((m, p) ∈ fields14) = (impl_degreeOf.d p = some m) := by
  have h := irrB_mem h
  have key : ∀ p ∈ irrs, ∃ m, impl_degreeOf.f 80 p = some m ∧ (m, p) ∈ fields14 ∧ ∀ m', (m', p) ∈ fields14 → m' = m := by
    have : ∀ p ∈ irrs, ∃ m ∈ [1, 2, 3, 4, 5], impl_degreeOf.f 80 p = some m ∧ (m, p) ∈ fields14 ∧ ∀ f ∈ fields14, f.2 = p → f.1 = m := by decide +kernel
    intro p hp
    obtain ⟨m, _, a, b, c⟩ := this p hp
    exact ⟨m, a, b, fun m' h' => c (m', p) h' rfl⟩
  intro m
  obtain ⟨m0, a, b, c⟩ := key p h
  have e : impl_degreeOf.d p = some m0 := ((impl_degreeOf.lim p).2 _).mpr ⟨_, a⟩
  rw [e]
  apply propext
  exact ⟨fun h => by rw [c m h], fun h => by cases h; exact b⟩
theorem deg_some {p : Int} (h : irrB p = true) : ∃ m, (m, p) ∈ fields14 := by
  have : ∀ p ∈ irrs, ∃ m ∈ [1, 2, 3, 4, 5], ((m, p) : Int × Int) ∈ fields14 := by decide +kernel
  obtain ⟨m, _, hm⟩ := this p (irrB_mem h)
  exact ⟨m, hm⟩
theorem fields_facts : ∀ f ∈ fields14, (1 ≤ f.1 ∧ f.1 ≤ 5) ∧ irrB f.2 = true := by decide +kernel
theorem valid_facts {m p : Int} (h : validB m p = true) : 1 ≤ m ∧ m ≤ 5 ∧ irrB p = true := by
  have h' : (m, p) ∈ fields14 := by simpa [validB] using h
  have := fields_facts _ h'
  exact ⟨this.1.1, this.1.2, this.2⟩
theorem validB_eq {m p : Int} : validB m p = decide ((m, p) ∈ fields14) := by simp [validB, List.contains_eq_mem]
theorem i_ValidField_v (m p : Int) : impl_ValidField.d m p = some (validB m p) := by
  rw [impl_ValidField.d_eq]
  unfold impl_within.f
  by_cases h1 : m ≥ 1
  · rw [if_pos h1, bind_some']
    by_cases h5 : m ≤ 5
    · rw [if_pos (by simpa using h5), i_IsIrreducible_v, bind_some']
      by_cases hi : irrB p = true
      · rw [if_pos hi]
        obtain ⟨m0, hm0⟩ := deg_some hi
        rw [i_deg_irr hi] at hm0
        rw [hm0, bind_some', validB_eq]
        have := i_deg_irr hi m
        rw [hm0] at this
        congr 1
        simp only [this, Option.some.injEq]
        by_cases e : m0 = m
        · simp [e]
        · simp [e]
      · rw [if_neg hi]
        congr 1
        have : ¬ validB m p = true := fun h => hi (valid_facts h).2.2
        exact (Bool.eq_false_iff.mpr this).symm
    · rw [if_neg (by simpa using h5)]
      have : ¬ validB m p = true := fun h => h5 (valid_facts h).2.1
      rw [Bool.eq_false_iff.mpr this]
  · rw [if_neg h1, bind_some', if_neg (by decide)]
    have : ¬ validB m p = true := fun h => h1 (valid_facts h).1
    rw [Bool.eq_false_iff.mpr this]
theorem m_cases {m p : Int} (h : validB m p = true) : m = 1 ∨ m = 2 ∨ m = 3 ∨ m = 4 ∨ m = 5 := by
  have := valid_facts h; omega
theorem i_count_v {m p : Int} (h : validB m p = true) (q : Int) : impl_Field_count.f m q = some (2 ^ m.toNat) := by
  rcases m_cases h with rfl | rfl | rfl | rfl | rfl <;> rfl
theorem s_l01Size_v {m p : Int} (h : validB m p = true) (q : Int) : spec_l01Size.f m q = some (2 ^ m.toNat) := by
  rcases m_cases h with rfl | rfl | rfl | rfl | rfl <;> rfl
theorem pow_bound {m p : Int} (h : validB m p = true) : (2 : Int) ≤ 2 ^ m.toNat ∧ (2 : Int) ^ m.toNat ≤ 32 := by
  rcases m_cases h with rfl | rfl | rfl | rfl | rfl <;> decide
theorem i_has_1_v {m p : Int} (h : validB m p = true) (q x : Int) : impl_Field_has_1.f x m q = some (!(elemB m x)) := by
  unfold impl_Field_has_1.f impl_within.f elemB
  have hb := pow_bound h
  rw [i_count_v h, bind_some', wr (by omega) (by omega)]
  by_cases c : 0 ≤ x
  · rw [if_pos (by omega), bind_some']
    simp only [decide_eq_true c, Bool.true_and]
    congr 2
    apply decide_eq_decide.mpr; omega
  · rw [if_neg (by omega), bind_some']
    simp only [decide_eq_false c, Bool.false_and]
theorem i_has_v {m p : Int} (h : validB m p = true) (q : Int) {l : List Int} (hl : l.length ≤ 17592186044416) : impl_Field_has.d m q l = some (l.all (elemB m)) := by
  rw [impl_Field_has.d_eq, slices_ContainsFunc_int64_int64_AT_impl_Field_has_1.d_eq, slices_IndexFunc_int64_int64_AT_impl_Field_has_1.d_eq]
  obtain ⟨v, e, c, _⟩ := index_gen (F := fun i => slices_IndexFunc_int64_int64_AT_impl_Field_has_1.l0d l (l.length : Int) i m q) (n := l.length) (q := fun i => !(elemB m (rd l (i : Int))))
    (by show slices_IndexFunc_int64_int64_AT_impl_Field_has_1.l0d l (l.length : Int) (l.length : Int) m q = _
        rw [slices_IndexFunc_int64_int64_AT_impl_Field_has_1.l0d_eq, if_neg (by omega)])
    (by intro i hi
        show slices_IndexFunc_int64_int64_AT_impl_Field_has_1.l0d l (l.length : Int) (i : Int) m q = _
        rw [slices_IndexFunc_int64_int64_AT_impl_Field_has_1.l0d_eq, if_pos (by omega), if_pos (by omega), if_pos (by omega), i_has_1_v h, bind_some', wrS hi hl])
  have e' : slices_IndexFunc_int64_int64_AT_impl_Field_has_1.l0d l (l.length : Int) 0 m q = some v := e
  rw [e', bind_some', bind_some', c, Bool.not_not]
  congr 1
  rw [← all_get]
  apply decide_eq_decide.mpr
  simp only [Bool.not_eq_false']
theorem bit_if_pos {b : Bool} (h : b = true) : ((if b = true then 1 else 0 : Int) = 1) = True := by rw [h]; simp
theorem bit_if_neg {b : Bool} (h : b = false) : ((if b = true then 1 else 0 : Int) = 1) = False := by rw [h]; simp
theorem clr_lt62 {c r x : Nat} (hr : r < 4611686018427387904) (hx : x < 4611686018427387904) : clr c r x < 4611686018427387904 := by
  have := clr_lt (n := 62) (c := c) (r := r) (x := x) (by omega) (by omega)
  omega
theorem clr_set {c r : Nat} {a : List Nat} {i : Nat} (hi : i < a.length) (h : a[i].testBit c = false) : a.set i (clr c r a[i]) = a := by
  unfold clr
  rw [if_neg (by rw [h]; decide), List.set_getElem_self]
theorem low_zero {N x : Nat} (h : x < 2 ^ N) (h0 : ∀ b, b < N → x.testBit b = false) : x = 0 := by
  apply Nat.eq_of_testBit_eq
  intro b
  rw [Nat.zero_testBit]
  rcases Nat.lt_or_ge b N with z | z
  · exact h0 b z
  · exact Nat.testBit_lt_two_pow (Nat.lt_of_lt_of_le h (Nat.pow_le_pow_right (by omega) z))
theorem pow62 {N x : Nat} (hN : N ≤ 62) (h : x < 2 ^ N) : x < 4611686018427387904 :=
  Nat.lt_of_lt_of_le h (Nat.le_trans (Nat.pow_le_pow_right (by omega) hN) (by decide))
theorem i_bit_v {a c : Nat} (ha : a < 4611686018427387904) (hc : c ≤ 62) : impl_echelon_1.f (a : Int) (c : Int) = some (a.testBit c) := by
  unfold impl_echelon_1.f
  rw [if_pos (by omega), bit_test (by omega) (by omega)]
  cases a.testBit c <;> simp
theorem i_find_v {m : List Nat} {c : Nat} (hc : c ≤ 61) (hl : m.length ≤ 17592186044416) (hb : ∀ x ∈ m, x < 4611686018427387904) :
    ∃ v, slices_IndexFunc_int64_int64_AT_impl_echelon_1.d (up m) (c : Int) = some v ∧ ((v < 0 ∧ ∀ j, (h : j < m.length) → m[j].testBit c = false) ∨ ∃ j, ∃ h : j < m.length, v = (j : Int) ∧ m[j].testBit c = true) := by
  rw [slices_IndexFunc_int64_int64_AT_impl_echelon_1.d_eq]
  obtain ⟨v, e, d, s⟩ := index_gen (F := fun i => slices_IndexFunc_int64_int64_AT_impl_echelon_1.l0d (up m) ((up m).length : Int) i (c : Int)) (n := m.length) (q := fun i => (m.getD i 0).testBit c)
    (by show slices_IndexFunc_int64_int64_AT_impl_echelon_1.l0d (up m) ((up m).length : Int) (m.length : Int) (c : Int) = _
        rw [slices_IndexFunc_int64_int64_AT_impl_echelon_1.l0d_eq, if_neg (by rw [up_length]; omega)])
    (by intro i hi
        show slices_IndexFunc_int64_int64_AT_impl_echelon_1.l0d (up m) ((up m).length : Int) (i : Int) (c : Int) = _
        have hg : m.getD i 0 = m[i] := by simp [List.getD_eq_getElem?_getD, hi]
        rw [slices_IndexFunc_int64_int64_AT_impl_echelon_1.l0d_eq, if_pos (by rw [up_length]; omega), if_pos (by omega), if_pos (by rw [up_length]; omega), up_get hi, i_bit_v (hb _ (List.getElem_mem hi)) (by omega), bind_some', wrS hi hl, hg])
  refine ⟨v, e, ?_⟩
  by_cases h : ∀ i, i < m.length → (m.getD i 0).testBit c = false
  · left
    rw [decide_eq_true h] at d
    refine ⟨by have : ¬ v ≥ 0 := by simpa using d
               omega, fun j hj => ?_⟩
    have := h j hj
    rwa [List.getD_eq_getElem?_getD, List.getElem?_eq_getElem hj] at this
  · right
    rw [decide_eq_false h] at d
    have hv : 0 ≤ v := by simpa using d
    obtain ⟨a1, a2, _⟩ := s hv
    refine ⟨v.toNat, a1, by omega, ?_⟩
    rwa [List.getD_eq_getElem?_getD, List.getElem?_eq_getElem a1] at a2
/-- two places change their rows -/
def swp (x : List Nat) (d p : Nat) (hd : d < x.length) (hp : p < x.length) : List Nat := (x.set d x[p]).set p x[d]
theorem swp_length {x : List Nat} {d p : Nat} (hd : d < x.length) (hp : p < x.length) : (swp x d p hd hp).length = x.length := by simp [swp]
theorem swp_get {x : List Nat} {d p : Nat} (hd : d < x.length) (hp : p < x.length) {j : Nat} (h : j < (swp x d p hd hp).length) :
    (swp x d p hd hp)[j] = if p = j then x[d] else if d = j then x[p] else x[j]'(by rw [swp_length] at h; exact h) := by
  have h2 : j < ((x.set d x[p]).set p x[d]).length := h
  have e : ((x.set d x[p]).set p x[d])[j]'h2 = if p = j then x[d] else if d = j then x[p] else x[j]'(by rw [swp_length] at h; exact h) := by
    rw [List.getElem_set, List.getElem_set]
  exact e
theorem swp_mem {x : List Nat} {d p : Nat} (hd : d < x.length) (hp : p < x.length) {r : Nat} (h : r ∈ swp x d p hd hp) : r ∈ x := by
  obtain ⟨j, hj, e⟩ := List.getElem_of_mem h
  rw [swp_get] at e
  split at e
  · rw [← e]; exact List.getElem_mem _
  · split at e
    · rw [← e]; exact List.getElem_mem _
    · rw [← e]; exact List.getElem_mem _
def clrBut (d c lead : Nat) (i x : Nat) : Nat := if i = d then x else clr c lead x
theorem i_clear {x : List Nat} {d c : Nat} (hc : c ≤ 61) (hd : d < x.length) (hl : x.length ≤ 17592186044416) (hb : ∀ y ∈ x, y < 4611686018427387904) :
    impl_echelon.l1d (up x) (d : Int) (x.length : Int) 0 (c : Int) = impl_echelon.l0d (up (x.mapIdx (clrBut d c x[d]))) ((d + 1 : Nat) : Int) ((c + 1 : Nat) : Int) := by
  have hlead := hb _ (List.getElem_mem hd)
  refine map_gen (F := fun a i => impl_echelon.l1d (up a) (d : Int) (x.length : Int) i (c : Int)) (n := x.length) (g := clrBut d c x[d]) (fun _ y => y < 4611686018427387904) x rfl
    (fun i h => hb _ (List.getElem_mem h)) (fun i y h => ?_) ?_ ?_
  · unfold clrBut
    split
    · exact h
    · exact clr_lt62 hlead h
  · intro i a hi ha hq hge hlt
    show impl_echelon.l1d (up a) (d : Int) (x.length : Int) (i : Int) (c : Int) = impl_echelon.l1d (up (a.set i (clrBut d c x[d] i a[i]))) (d : Int) (x.length : Int) ((i + 1 : Nat) : Int) (c : Int)
    have had : a[d]'(by omega) = x[d] := by
      rcases Nat.lt_or_ge d i with z | z
      · rw [hlt d z (by omega) hd]; unfold clrBut; rw [if_pos rfl]
      · exact hge d z (by omega) hd
    rw [impl_echelon.l1d_eq, if_pos (by omega)]
    by_cases e : i = d
    · rw [if_pos (by omega), wrS (n := x.length) (by omega) hl]
      unfold clrBut
      rw [if_pos e, List.set_getElem_self]
    · rw [if_neg (by omega), if_pos (by omega), if_pos (by rw [up_length]; omega), if_pos (by omega), up_get hi, bit_test (by have := hq i hi; omega) (by omega), wrS (n := x.length) (by omega) hl, up_get (show d < a.length by omega), had]
      unfold clrBut
      rw [if_neg e]
      by_cases t : a[i].testBit c = true
      · rw [if_pos (by rw [bit_if_pos t]; trivial), if_pos (by omega), if_pos (by rw [up_length]; omega), bxor (by have := hq i hi; omega) (by omega), Int.toNat_natCast, up_set]
        unfold clr; rw [if_pos t]
      · have t' := Bool.eq_false_iff.mpr t
        rw [if_neg (by rw [bit_if_neg t']; exact id), clr_set hi t']
  · show impl_echelon.l1d (up (x.mapIdx (clrBut d c x[d]))) (d : Int) (x.length : Int) (x.length : Int) (c : Int) = _
    rw [impl_echelon.l1d_eq, if_neg (by omega), wrS (n := x.length) (by omega) hl, wrS (n := 62) (by omega) (by omega)]
theorem i_ech_end {N : Nat} (hN : N ≤ 62) {x : List Nat} {d : Nat} {c : Int} (hd : d ≤ x.length) : impl_echelon.j1d (up x) (d : Int) false c = some (up (x.take d)) := by
  rw [impl_echelon.j1d_eq, if_neg (by decide), if_pos (by omega), if_pos (by rw [up_length]; omega), Int.toNat_natCast, up_take]
theorem i_ech_loop {N : Nat} (hN : N ≤ 62) : ∀ c, c ≤ 62 → ∀ (x : List Nat) (d : Nat), x.length ≤ 17592186044416 → d ≤ x.length → (∀ y ∈ x, y < 2 ^ N) →
    (∀ j, d ≤ j → (h : j < x.length) → ∀ b, b < c → x[j].testBit b = false) → (∃ C, RED (x.take d) C ∧ ∀ e ∈ C, e < c) →
    ∃ R C, impl_echelon.l0d (up x) (d : Int) (c : Int) = some (up R) ∧ RED R C ∧ (∀ v, Sp R v ↔ Sp x v) := by
  apply down
  · intro x d hl hd hb hlow ⟨C, hC, _⟩
    refine ⟨x.take d, C, ?_, hC, fun v => ⟨fun h => h.mono fun r hr => List.mem_of_mem_take hr, fun h => h.sub fun r hr => ?_⟩⟩
    · rw [impl_echelon.l0d_eq, if_neg (by omega), i_ech_end hN hd]
    · obtain ⟨j, hj, e⟩ := List.getElem_of_mem hr
      rcases Nat.lt_or_ge j d with z | z
      · refine Sp.mem ?_
        have hjt : j < (x.take d).length := by rw [List.length_take]; omega
        have := List.getElem_mem hjt
        rw [List.getElem_take] at this
        rw [← e]; exact this
      · have : r = 0 := low_zero (N := 62) (Nat.lt_of_lt_of_le (hb r hr) (Nat.pow_le_pow_right (by omega) hN)) (by rw [← e]; exact hlow j z hj)
        rw [this]; exact Sp.zero
  · intro c hc ih x d hl hd hb hlow ⟨C, hC, hCc⟩
    have b62 : ∀ y ∈ x, y < 4611686018427387904 := fun y hy => pow62 hN (hb y hy)
    rw [impl_echelon.l0d_eq, if_pos (by omega)]
    by_cases hdl : d < x.length
    · rw [decide_eq_true (by rw [up_length]; omega), impl_echelon.j1d_eq, if_pos rfl, if_pos (by omega), if_pos (by rw [up_length]; omega), Int.toNat_natCast, up_drop]
      obtain ⟨v, ev, hv⟩ := i_find_v (m := x.drop d) (c := c) (by omega) (by rw [List.length_drop]; omega) (fun y hy => b62 y (List.mem_of_mem_drop hy))
      rw [ev, bind_some']
      rcases hv with ⟨hv, hnone⟩ | ⟨t, ht, rfl, hbit⟩
      · rw [if_pos hv, wrS (n := 62) (by omega) (by omega)]
        refine ih x d hl hd hb (fun j hj h b hbc => ?_) ⟨C, hC, fun e he => Nat.lt_succ_of_lt (hCc e he)⟩
        rcases Nat.lt_or_ge b c with z | z
        · exact hlow j hj h b z
        · have := hnone (j - d) (by rw [List.length_drop]; omega)
          rw [List.getElem_drop] at this
          simp only [show d + (j - d) = j by omega] at this
          rw [show b = c by omega]; exact this
      · rw [List.length_drop] at ht
        rw [List.getElem_drop] at hbit
        have hp : d + t < x.length := by omega
        have ep : wrap64 ((d : Int) + (t : Int)) = ((d + t : Nat) : Int) := by rw [wr (by omega) (by omega)]; omega
        rw [if_neg (by omega), ep, if_pos (by omega), if_pos (by rw [up_length]; omega), if_pos (by rw [up_length]; omega), up_get hp, up_get hdl]
        simp only [Int.toNat_natCast]
        rw [up_set, up_set, up_length]
        obtain ⟨p, hpe⟩ : ∃ p, p = d + t := ⟨_, rfl⟩
        have hp' : p < x.length := by omega
        have esw : (x.set d (x[d + t]'hp)).set (d + t) x[d] = swp x d p hdl hp' := by subst hpe; rfl
        have hbit' : x[p].testBit c = true := by subst hpe; exact hbit
        rw [esw]
        obtain ⟨s, hs⟩ : ∃ s, s = swp x d p hdl hp' := ⟨_, rfl⟩
        rw [← hs]
        have hsl : s.length = x.length := by rw [hs, swp_length]
        have hsd : d < s.length := by omega
        have hg : ∀ j, (h : j < s.length) → s[j] = if p = j then x[d] else if d = j then x[p] else x[j]'(by omega) := by
          intro j h; subst hs; exact swp_get hdl hp' h
        have hsm : ∀ r ∈ s, r ∈ x := fun r hr => swp_mem hdl hp' (hs ▸ hr)
        have hdp : d ≤ p := by omega
        obtain ⟨lead, hlead⟩ : ∃ lead, lead = s[d] := ⟨_, rfl⟩
        have elead : lead = x[p] := by
          rw [hlead, hg d hsd]
          by_cases z : p = d
          · rw [if_pos z]; simp only [z]
          · rw [if_neg z, if_pos rfl]
        have lbit : lead.testBit c = true := by rw [elead]; exact hbit'
        have llow : ∀ b, b < c → lead.testBit b = false := by rw [elead]; exact hlow p hdp hp'
        have llt : lead < 2 ^ N := by rw [elead]; exact hb _ (List.getElem_mem hp')
        have hlen : (s.mapIdx (clrBut d c lead)).length = x.length := by rw [List.length_mapIdx]; exact hsl
        have hm : ∀ j, (h : j < (s.mapIdx (clrBut d c lead)).length) → (s.mapIdx (clrBut d c lead))[j] = if j = d then lead else clr c lead (s[j]'(by rw [List.length_mapIdx] at h; exact h)) := by
          intro j h
          rw [List.getElem_mapIdx]
          unfold clrBut
          by_cases z : j = d
          · rw [if_pos z, if_pos z]; refine Eq.trans ?_ hlead.symm; simp only [z]
          · rw [if_neg z, if_neg z]
        have i1 := i_clear (x := s) (d := d) (c := c) (by omega) hsd (by omega) (fun y hy => b62 y (hsm y hy))
        rw [hsl] at i1
        rw [i1, ← hlead]
        have htake : (s.mapIdx (clrBut d c lead)).take (d + 1) = (x.take d).map (clr c lead) ++ [lead] := by
          apply List.ext_getElem
          · simp; omega
          · intro j h1 h2
            rw [List.length_take, hlen] at h1
            rw [List.getElem_take, hm]
            by_cases z : j = d
            · have hle : ((x.take d).map (clr c lead)).length ≤ j := by rw [List.length_map, List.length_take, z]; exact Nat.min_le_left _ _
              rw [if_pos z, List.getElem_append_right hle]
              simp
            · have hjd : j < d := by omega
              rw [if_neg z, List.getElem_append_left (by simp; omega), List.getElem_map, List.getElem_take, hg j (by omega), if_neg (by omega), if_neg (by omega)]
        obtain ⟨R, C', e, hR, hSp⟩ := ih (s.mapIdx (clrBut d c lead)) (d + 1) (by rw [hlen]; exact hl) (by rw [hlen]; omega)
          (by
            intro y hy
            obtain ⟨j, hj, ej⟩ := List.getElem_of_mem hy
            rw [hm j hj] at ej
            rw [← ej]
            split
            · exact llt
            · exact clr_lt llt (hb _ (hsm _ (List.getElem_mem _))))
          (by
            intro j hj h b hbc
            have hjs : j < s.length := by rw [hlen] at h; omega
            rw [hm j h, if_neg (by omega)]
            rcases Nat.lt_or_ge b c with z | z
            · rw [clr_low (llow b z), hg j hjs]
              split
              · exact hlow d (Nat.le_refl _) hdl b z
              · rw [if_neg (by omega)]; exact hlow j (by omega) (by omega) b z
            · rw [show b = c by omega]; exact clr_bit lbit)
          ⟨C ++ [c], by
            rw [htake]
            exact RED.snoc (hC.clr (fun e h => llow e (hCc e h)) (fun e h b hb' => llow b (Nat.lt_trans hb' (hCc e h)))) lbit llow hCc (by
              intro y hy
              obtain ⟨z, hz, rfl⟩ := List.mem_map.mp hy
              exact clr_bit lbit), by
            intro e h
            rcases List.mem_append.mp h with h | h
            · exact Nat.lt_succ_of_lt (hCc e h)
            · rw [List.mem_singleton] at h; omega⟩
        refine ⟨R, C', e, hR, fun v => (hSp v).trans ⟨fun h => h.sub fun r hr => ?_, fun h => h.sub fun r hr => ?_⟩⟩
        · have sl : Sp x lead := by rw [elead]; exact Sp.mem (List.getElem_mem _)
          obtain ⟨j, hj, ej⟩ := List.getElem_of_mem hr
          rw [hm j hj] at ej
          rw [← ej]
          split
          · exact sl
          · exact Sp.clr sl (Sp.mem (hsm _ (List.getElem_mem _)))
        · have hdn : d < (s.mapIdx (clrBut d c lead)).length := by rw [hlen]; exact hdl
          have sl : Sp (s.mapIdx (clrBut d c lead)) lead := by
            have := hm d hdn
            rw [if_pos rfl] at this
            have hmem := Sp.mem (List.getElem_mem hdn)
            rw [this] at hmem
            exact hmem
          have sj : ∀ j, (h : j < s.length) → Sp (s.mapIdx (clrBut d c lead)) s[j] := by
            intro j h
            by_cases z : j = d
            · have ez : s[j] = lead := by rw [hlead]; simp only [z]
              rw [ez]; exact sl
            · have hj' : j < (s.mapIdx (clrBut d c lead)).length := by rw [List.length_mapIdx]; exact h
              have := hm j hj'
              rw [if_neg z] at this
              refine Sp.of_clr (c := c) sl ?_
              rw [← this]; exact Sp.mem (List.getElem_mem hj')
          obtain ⟨j, hj, ej⟩ := List.getElem_of_mem hr
          rw [← ej]
          by_cases z : j = d
          · have hps : p < s.length := hsl.symm ▸ hp'
            have := sj p hps
            rw [hg p hps, if_pos rfl] at this
            have ez : x[j] = x[d] := by simp only [z]
            rw [ez]; exact this
          · by_cases z2 : j = p
            · have ez : x[j] = x[p] := by simp only [z2]
              rw [ez, ← elead]; exact sl
            · have hjs : j < s.length := hsl.symm ▸ hj
              have := sj j hjs
              rw [hg j hjs, if_neg (fun e => z2 e.symm), if_neg (fun e => z e.symm)] at this
              exact this
    · rw [decide_eq_false (by rw [up_length]; omega), i_ech_end hN hd]
      refine ⟨x.take d, C, rfl, hC, fun v => ?_⟩
      rw [List.take_of_length_le (by omega)]
theorem i_ech_v {N : Nat} (hN : N ≤ 62) {ln : List Nat} (hl : ln.length ≤ 1048576) (hb : ∀ x ∈ ln, x < 2 ^ N) :
    ∃ R C, impl_echelon.d (up ln) = some (up R) ∧ RED R C ∧ (∀ v, Sp R v ↔ Sp ln v) := by
  rw [impl_echelon.d_eq]
  unfold slices_Clone_int64_int64.f
  rw [if_pos (by rw [up_length]; omega), bind_some']
  exact i_ech_loop hN 0 (by omega) ln 0 (by omega) (by omega) hb (fun j _ h b hb => by omega) ⟨[], trivial, fun d hd => nomatch hd⟩
/-- the product of polynomials a and b, of b the places below n -/
def clm (a b : Nat) : Nat → Nat
  | 0 => 0
  | i + 1 => clm a b i ^^^ (if b.testBit i = true then a * 2 ^ i else 0)
/-- the rest of r by p, a polynomial of degree m: the places m + n - 1 .. m are cleared -/
def red (m p : Nat) (r : Nat) : Nat → Nat
  | 0 => r
  | i + 1 => red m p (if r.testBit (m + i) = true then r ^^^ (p * 2 ^ i) else r) i
/-- the product in the field -/
def fmul (m p a b : Nat) : Nat := red m p (clm a b m) m
theorem mul_pow_lt {a m i : Nat} (ha : a < 2 ^ m) : a * 2 ^ i < 2 ^ (m + i) := by
  rw [Nat.pow_add]; exact Nat.mul_lt_mul_of_pos_right ha (Nat.two_pow_pos i)
theorem clm_lt {a m : Nat} (ha : a < 2 ^ m) (b : Nat) : ∀ n, clm a b n < 2 ^ (m + n)
  | 0 => Nat.two_pow_pos _
  | n + 1 => by
    refine Nat.xor_lt_two_pow (lt_mono (clm_lt ha b n) (by omega)) ?_
    split
    · exact lt_mono (mul_pow_lt ha) (by omega)
    · exact Nat.two_pow_pos _
theorem clm_stop (a : Nat) {b i : Nat} (h : b < 2 ^ i) : ∀ n, clm a b (i + n) = clm a b i
  | 0 => rfl
  | n + 1 => by
    rw [← Nat.add_assoc, clm, clm_stop a h n, Nat.testBit_lt_two_pow (lt_mono h (by omega))]
    simp
theorem lt_of_bit {r k : Nat} (h : r < 2 ^ (k + 1)) (hb : r.testBit k = false) : r < 2 ^ k := by
  apply Nat.lt_pow_two_of_testBit
  intro i hi
  rcases Nat.lt_or_ge i (k + 1) with z | z
  · rw [show i = k by omega]; exact hb
  · exact Nat.testBit_lt_two_pow (lt_mono h z)
theorem red_step_lt {m p r i : Nat} (hp : p < 2 ^ (m + 1)) (hpb : p.testBit m = true) (hr : r < 2 ^ (m + (i + 1))) : (if r.testBit (m + i) = true then r ^^^ (p * 2 ^ i) else r) < 2 ^ (m + i) := by
  have h1 : p * 2 ^ i < 2 ^ (m + i + 1) := by
    have := mul_pow_lt (i := i) hp
    exact lt_mono this (by omega)
  split
  · rename_i c
    refine lt_of_bit (Nat.xor_lt_two_pow hr h1) ?_
    rw [Nat.testBit_xor, c, Nat.testBit_mul_two_pow]
    simp [hpb]
  · rename_i c
    exact lt_of_bit hr (Bool.eq_false_iff.mpr c)
theorem red_lt {m p : Nat} (hp : p < 2 ^ (m + 1)) (hpb : p.testBit m = true) : ∀ i r, r < 2 ^ (m + i) → red m p r i < 2 ^ m
  | 0, r, h => h
  | i + 1, r, h => by rw [red]; exact red_lt hp hpb i _ (red_step_lt hp hpb h)
theorem s_half {r : Nat} (h : r < 9223372036854775808) : wrap64 (Int.tdiv (r : Int) 2) = ((r / 2 : Nat) : Int) := by
  have e : Int.tdiv (r : Int) 2 = ((r / 2 : Nat) : Int) := (Int.ofNat_tdiv r 2).symm
  rw [e, wr (by omega) (by omega)]
theorem half_bit {r k : Nat} : (r / 2).testBit k = r.testBit (k + 1) := Nat.testBit_div_two ..
theorem half_lt {r k : Nat} (h : r < 2 ^ (k + 1)) : r / 2 < 2 ^ k := by rw [Nat.pow_succ] at h; omega
theorem bit_pos {r k : Nat} (h : r.testBit k = true) : 0 < r := by
  rcases Nat.eq_zero_or_pos r with rfl | z
  · rw [Nat.zero_testBit] at h; cases h
  · exact z
theorem spec_l01Degree.some_v : ∀ (k r : Nat) (o : Int), k ≤ 62 → r < 2 ^ (k + 1) → r.testBit k = true → -1 ≤ o → o + k ≤ 1000 → spec_l01Degree.l0d (r : Int) o = some (o + k + 1)
  | 0, r, o, hk, h, hb, h0, h1 => by
    have hr : r = 1 := by have := bit_pos hb; omega
    subst hr
    rw [spec_l01Degree.l0d_eq, if_pos (by omega), wr (x := o + 1) (by omega) (by omega), show wrap64 (Int.tdiv ((1 : Nat) : Int) 2) = ((1 / 2 : Nat) : Int) by (exact s_half (small62 (by omega) h)), spec_l01Degree.l0d_eq, if_neg (by decide)]; simp
  | k + 1, r, o, hk, h, hb, h0, h1 => by
    have := bit_pos hb
    rw [spec_l01Degree.l0d_eq, if_pos (by omega), wr (x := o + 1) (by omega) (by omega), show wrap64 (Int.tdiv (r : Int) 2) = ((r / 2 : Nat) : Int) by (exact s_half (small62 (by omega) h)), spec_l01Degree.some_v k (r / 2) (o + 1) (by omega) (half_lt h) (by rw [half_bit]; exact hb) (by omega) (by omega)]
    congr 1; omega
theorem spec_l01Degree.lt_v : ∀ (k r : Nat) (o : Int), k ≤ 62 → r < 2 ^ k → -1 ≤ o → o + k ≤ 1000 → ∃ d, spec_l01Degree.l0d (r : Int) o = some d ∧ d ≤ o + k
  | 0, r, o, hk, h, h0, h1 => ⟨o, by rw [spec_l01Degree.l0d_eq, if_neg (by have hz : r = 0 := (by simpa using h); omega)], by omega⟩
  | k + 1, r, o, hk, h, h0, h1 => by
    by_cases c : 0 < r
    · obtain ⟨d, e, hd⟩ := spec_l01Degree.lt_v k (r / 2) (o + 1) (by omega) (half_lt h) (by omega) (by omega)
      have hr62 := small62 (n := k + 1) (by omega) h
      exact ⟨d, by rw [spec_l01Degree.l0d_eq, if_pos (by omega), wr (x := o + 1) (by omega) (by omega), show wrap64 (Int.tdiv (r : Int) 2) = ((r / 2 : Nat) : Int) by (exact s_half (small62 (by omega) h)), e], by omega⟩
    · exact ⟨o, by rw [spec_l01Degree.l0d_eq, if_neg (by omega)], by omega⟩
theorem impl_degreeOf.some_v : ∀ (k r : Nat) (o : Int), k ≤ 62 → r < 2 ^ (k + 1) → r.testBit k = true → -1 ≤ o → o + k ≤ 1000 → impl_degreeOf.l0d (r : Int) o = some (o + k + 1)
  | 0, r, o, hk, h, hb, h0, h1 => by
    have hr : r = 1 := by have := bit_pos hb; omega
    subst hr
    rw [impl_degreeOf.l0d_eq, if_pos (by omega), wr (x := o + 1) (by omega) (by omega), show (((1 : Nat) : Int) / 2) = ((1 / 2 : Nat) : Int) by omega, impl_degreeOf.l0d_eq, if_neg (by decide)]; simp
  | k + 1, r, o, hk, h, hb, h0, h1 => by
    have := bit_pos hb
    rw [impl_degreeOf.l0d_eq, if_pos (by omega), wr (x := o + 1) (by omega) (by omega), show ((r : Int) / 2) = ((r / 2 : Nat) : Int) by omega, impl_degreeOf.some_v k (r / 2) (o + 1) (by omega) (half_lt h) (by rw [half_bit]; exact hb) (by omega) (by omega)]
    congr 1; omega
theorem impl_degreeOf.lt_v : ∀ (k r : Nat) (o : Int), k ≤ 62 → r < 2 ^ k → -1 ≤ o → o + k ≤ 1000 → ∃ d, impl_degreeOf.l0d (r : Int) o = some d ∧ d ≤ o + k
  | 0, r, o, hk, h, h0, h1 => ⟨o, by rw [impl_degreeOf.l0d_eq, if_neg (by have hz : r = 0 := (by simpa using h); omega)], by omega⟩
  | k + 1, r, o, hk, h, h0, h1 => by
    by_cases c : 0 < r
    · obtain ⟨d, e, hd⟩ := impl_degreeOf.lt_v k (r / 2) (o + 1) (by omega) (half_lt h) (by omega) (by omega)
      have hr62 := small62 (n := k + 1) (by omega) h
      exact ⟨d, by rw [impl_degreeOf.l0d_eq, if_pos (by omega), wr (x := o + 1) (by omega) (by omega), show ((r : Int) / 2) = ((r / 2 : Nat) : Int) by omega, e], by omega⟩
    · exact ⟨o, by rw [impl_degreeOf.l0d_eq, if_neg (by omega)], by omega⟩
theorem spec_l01Rest.loop_v {m p : Nat} (hm : m ≤ 5) (hp : p < 2 ^ (m + 1)) (hpb : p.testBit m = true) : ∀ i r : Nat, i ≤ 5 → r < 2 ^ (m + i) → spec_l01Rest.l0d (r : Int) (p : Int) (m : Int) = some ((red m p r i : Nat) : Int)
  | 0, r, hi, h => by
    obtain ⟨d, e, hd⟩ := spec_l01Degree.lt_v m r (-1) (by omega) h (by omega) (by omega)
    rw [spec_l01Rest.l0d_eq, spec_l01Degree.d_eq, e, bind_some', if_neg (by omega)]; rfl
  | i + 1, r, hi, h => by
    have st := red_step_lt (i := i) hp hpb h
    rw [red]
    by_cases c : r.testBit (m + i) = true
    · rw [if_pos c] at st ⊢
      have e : spec_l01Degree.d (r : Int) = some ((m + i : Nat) : Int) := by
        rw [spec_l01Degree.d_eq, spec_l01Degree.some_v (m + i) r (-1) (by omega) h c (by omega) (by omega)]; congr 1; omega
      have h1 : p * 2 ^ i < 2 ^ 12 := lt_mono (mul_pow_lt hp) (by omega)
      have h2 : r < 2 ^ 12 := lt_mono h (by omega)
      rw [spec_l01Rest.l0d_eq, e, bind_some', if_pos (by omega), bind_some', show (IntKind.u64.wrap (wrap64 (((m + i : Nat) : Int) - (m : Int)))) = (i : Int) by rw [wr (by omega) (by omega), u64_id (by omega) (by omega)]; omega, if_pos (by omega), shl_nat (by omega) (by omega), bxor (by omega) (by omega)]
      exact spec_l01Rest.loop_v hm hp hpb i _ (by omega) st
    · rw [if_neg c] at st ⊢
      exact spec_l01Rest.loop_v hm hp hpb i r (by omega) st
theorem spec_l01Rest.v {m p : Nat} (hm : m ≤ 5) (hp : p < 2 ^ (m + 1)) (hpb : p.testBit m = true) {r : Nat} (h : r < 2 ^ (m + m)) : spec_l01Rest.d (r : Int) (p : Int) = some ((red m p r m : Nat) : Int) := by
  rw [spec_l01Rest.d_eq, spec_l01Degree.d_eq, spec_l01Degree.some_v m p (-1) (by omega) hp hpb (by omega) (by omega), bind_some', show (-1 + (m : Int) + 1) = m by omega]
  exact spec_l01Rest.loop_v hm hp hpb m r (by omega) h
theorem impl_restOf.loop_v {m p : Nat} (hm : m ≤ 5) (hp : p < 2 ^ (m + 1)) (hpb : p.testBit m = true) : ∀ i r : Nat, i ≤ 5 → r < 2 ^ (m + i) → impl_restOf.l0d (r : Int) (p : Int) (m : Int) = some ((red m p r i : Nat) : Int)
  | 0, r, hi, h => by
    obtain ⟨d, e, hd⟩ := impl_degreeOf.lt_v m r (-1) (by omega) h (by omega) (by omega)
    rw [impl_restOf.l0d_eq, impl_degreeOf.d_eq, e, bind_some', if_neg (by omega)]; rfl
  | i + 1, r, hi, h => by
    have st := red_step_lt (i := i) hp hpb h
    rw [red]
    by_cases c : r.testBit (m + i) = true
    · rw [if_pos c] at st ⊢
      have e : impl_degreeOf.d (r : Int) = some ((m + i : Nat) : Int) := by
        rw [impl_degreeOf.d_eq, impl_degreeOf.some_v (m + i) r (-1) (by omega) h c (by omega) (by omega)]; congr 1; omega
      have h1 : p * 2 ^ i < 2 ^ 12 := lt_mono (mul_pow_lt hp) (by omega)
      have h2 : r < 2 ^ 12 := lt_mono h (by omega)
      rw [impl_restOf.l0d_eq, e, bind_some', if_pos (by omega), bind_some', show wrap64 (((m + i : Nat) : Int) - (m : Int)) = (i : Int) by rw [wr (by omega) (by omega)]; omega, if_pos (by omega), shl_nat (by omega) (by omega), bxor (by omega) (by omega)]
      exact impl_restOf.loop_v hm hp hpb i _ (by omega) st
    · rw [if_neg c] at st ⊢
      exact impl_restOf.loop_v hm hp hpb i r (by omega) st
theorem impl_restOf.v {m p : Nat} (hm : m ≤ 5) (hp : p < 2 ^ (m + 1)) (hpb : p.testBit m = true) {r : Nat} (h : r < 2 ^ (m + m)) : impl_restOf.d (r : Int) (p : Int) = some ((red m p r m : Nat) : Int) := by
  rw [impl_restOf.d_eq, impl_degreeOf.d_eq, impl_degreeOf.some_v m p (-1) (by omega) hp hpb (by omega) (by omega), bind_some', show (-1 + (m : Int) + 1) = m by omega]
  exact impl_restOf.loop_v hm hp hpb m r (by omega) h
theorem fields_bits : ∀ f ∈ fields14, 0 ≤ f.2 ∧ f.2.toNat < 2 ^ (f.1.toNat + 1) ∧ f.2.toNat.testBit f.1.toNat = true := by decide +kernel
theorem valid_nat {m p : Int} (h : validB m p = true) : ∃ M P : Nat, m = (M : Int) ∧ p = (P : Int) ∧ 1 ≤ M ∧ M ≤ 5 := by
  have h' : (m, p) ∈ fields14 := by simpa [validB] using h
  have h2 := fields_bits _ h'
  have h3 := valid_facts h
  exact ⟨m.toNat, p.toNat, by omega, by simp only at h2; omega, by omega, by omega⟩
theorem valid_bits {M P : Nat} (h : validB (M : Int) (P : Int) = true) : 1 ≤ M ∧ M ≤ 5 ∧ P < 2 ^ (M + 1) ∧ P.testBit M = true := by
  have h' : ((M : Int), (P : Int)) ∈ fields14 := by simpa [validB] using h
  have h2 := fields_bits _ h'
  have h3 := valid_facts h
  exact ⟨by omega, by omega, h2.2.1, h2.2.2⟩
theorem fmul_lt {M P : Nat} (h : validB (M : Int) (P : Int) = true) {a : Nat} (ha : a < 2 ^ M) (b : Nat) : fmul M P a b < 2 ^ M := by
  have hv := valid_bits h
  exact red_lt hv.2.2.1 hv.2.2.2 M _ (clm_lt ha b M)
theorem i_product_v {M a b : Nat} (hM : M ≤ 5) (ha : a < 2 ^ M) (hb : b < 2 ^ M) : impl_product.d (a : Int) (b : Int) = some ((clm a b M : Nat) : Int) := by
  have hb5 : b < 2 ^ 5 := lt_mono hb hM
  have key : ∀ i, i ≤ M → impl_product.l0d ((a * 2 ^ i : Nat) : Int) ((b / 2 ^ i : Nat) : Int) ((clm a b i : Nat) : Int) = some ((clm a b M : Nat) : Int) := by
    apply down
    · rw [impl_product.l0d_eq, if_neg (by rw [Nat.div_eq_of_lt hb]; decide)]
    · intro i hi e
      have h1 : a * 2 ^ i < 2 ^ 10 := lt_mono (mul_pow_lt ha) (by omega)
      have h2 : clm a b i < 2 ^ 10 := lt_mono (clm_lt ha b i) (by omega)
      have h3 : b / 2 ^ i ≤ b := Nat.div_le_self _ _
      by_cases z : b / 2 ^ i = 0
      · have z' : b < 2 ^ i := by
          apply Classical.byContradiction
          intro w
          have := Nat.div_pos (Nat.le_of_not_lt w) (Nat.two_pow_pos i)
          omega
        rw [impl_product.l0d_eq, if_neg (by omega)]
        have := clm_stop a z' (M - i)
        rw [show i + (M - i) = M by omega] at this
        rw [this]
      · have e1 : wrap64 (((a * 2 ^ i : Nat) : Int) * 2) = ((a * 2 ^ (i + 1) : Nat) : Int) := by
          rw [wr (by omega) (by omega), Nat.pow_succ, ← Nat.mul_assoc]; simp
        have e2 : ((b / 2 ^ i : Nat) : Int) / 2 = ((b / 2 ^ (i + 1) : Nat) : Int) := by
          rw [Nat.pow_succ, ← Nat.div_div_eq_div_mul]; generalize b / 2 ^ i = q; omega
        have e3 : Go.bits .and .i64 ((b / 2 ^ i : Nat) : Int) 1 = if b.testBit i = true then 1 else 0 := by
          have := band (a := b / 2 ^ i) (b := 1) (by omega) (by omega)
          rw [show ((1 : Nat) : Int) = 1 from rfl] at this
          rw [this, Nat.and_one_is_mod, Nat.testBit_eq_decide_div_mod_eq]
          rcases Nat.mod_two_eq_zero_or_one (b / 2 ^ i) with w | w <;> rw [w] <;> simp
        rw [impl_product.l0d_eq, if_pos (Int.natCast_pos.mpr (Nat.pos_of_ne_zero z)), e1, e2, e3, ← e, clm]
        by_cases c : b.testBit i = true
        · rw [if_pos c, if_pos rfl, if_pos c, bxor (by omega) (by omega)]
        · rw [if_neg c, if_neg (by decide), if_neg c, Nat.xor_zero]
  rw [impl_product.d_eq]
  have := key 0 (by omega)
  simpa [clm] using this
theorem i_mul_v {M P : Nat} (h : validB (M : Int) (P : Int) = true) {a b : Nat} (ha : a < 2 ^ M) (hb : b < 2 ^ M) : impl_Field_mul.d (M : Int) (P : Int) (a : Int) (b : Int) = some ((fmul M P a b : Nat) : Int) := by
  have hv := valid_bits h
  rw [impl_Field_mul.d_eq, i_product_v hv.2.1 ha hb, bind_some', impl_restOf.v hv.2.1 hv.2.2.1 hv.2.2.2 (clm_lt ha b M)]; rfl
/-- x squared k times -/
def fsq (m p : Nat) : Nat → Nat → Nat
  | 0, x => x
  | k + 1, x => fsq m p k (fmul m p x x)
theorem fsq_lt {M P : Nat} (h : validB (M : Int) (P : Int) = true) : ∀ (k : Nat) {x : Nat}, x < 2 ^ M → fsq M P k x < 2 ^ M
  | 0, x, hx => hx
  | k + 1, x, hx => fsq_lt h k (fmul_lt h hx x)
theorem tmod_nat (k M : Nat) : Int.tmod (k : Int) (M : Int) = ((k % M : Nat) : Int) := (Int.ofNat_tmod k M).symm
theorem i_sq_loop {M P : Nat} (h : validB (M : Int) (P : Int) = true) {K : Nat} (hK : K ≤ 1000) : ∀ (k : Nat) {x : Nat}, k ≤ K → x < 2 ^ M → impl_Field_square.l0d (x : Int) (K : Int) ((K - k : Nat) : Int) (M : Int) (P : Int) = some ((fsq M P k x : Nat) : Int)
  | 0, x, _, hx => by rw [impl_Field_square.l0d_eq, if_neg (by omega)]; rfl
  | k + 1, x, hk, hx => by
    rw [impl_Field_square.l0d_eq, if_pos (by omega), i_mul_v h hx hx, bind_some', show wrap64 (((K - (k + 1) : Nat) : Int) + 1) = ((K - k : Nat) : Int) by rw [wr (by omega) (by omega)]; omega]
    exact i_sq_loop h hK k (by omega) (fmul_lt h hx x)
theorem i_sq_v {M P : Nat} (h : validB (M : Int) (P : Int) = true) (k : Nat) {x : Nat} (hx : x < 2 ^ M) : impl_Field_square.d (M : Int) (P : Int) (x : Int) (k : Int) = some ((fsq M P (k % M) x : Nat) : Int) := by
  have hv := valid_bits h
  have := Nat.mod_lt k (show M > 0 by omega)
  rw [impl_Field_square.d_eq, if_neg (by omega), tmod_nat]
  have e := i_sq_loop h (K := k % M) (by omega) (k % M) (x := x) (by omega) hx
  rwa [Nat.sub_self] at e
/-- the value of a linear polynomial, its first i coefficients -/
def fval (M P : Nat) (pn : List Nat) (x : Nat) : Nat → Nat
  | 0 => 0
  | i + 1 => fval M P pn x i ^^^ fmul M P (pn.getD i 0) (fsq M P (i % M) x)
theorem fval_lt {M P : Nat} (h : validB (M : Int) (P : Int) = true) {pn : List Nat} (hp : ∀ y ∈ pn, y < 2 ^ M) (x : Nat) : ∀ i, i ≤ pn.length → fval M P pn x i < 2 ^ M
  | 0, _ => Nat.two_pow_pos M
  | i + 1, hi => Nat.xor_lt_two_pow (fval_lt h hp x i (by omega)) (fmul_lt h (hp _ (getD_mem (by omega))) _)
theorem i_value_v {M P : Nat} (h : validB (M : Int) (P : Int) = true) {pn : List Nat} (hl : pn.length ≤ 1048576) (hp : ∀ y ∈ pn, y < 2 ^ M) {x : Nat} (hx : x < 2 ^ M) :
    impl_Field_value.d (M : Int) (P : Int) (up pn) (x : Int) = some ((fval M P pn x pn.length : Nat) : Int) := by
  have hv := valid_bits h
  have key : ∀ i, i ≤ pn.length → impl_Field_value.l0d (x : Int) ((fval M P pn x i : Nat) : Int) (up pn) ((up pn).length : Int) (i : Int) (M : Int) (P : Int) = some ((fval M P pn x pn.length : Nat) : Int) := by
    apply down
    · rw [impl_Field_value.l0d_eq, if_neg (by rw [up_length]; omega)]
    · intro i hi e
      have h1 := hp _ (getD_mem hi)
      have h2 := fsq_lt h (i % M) hx
      have h3 := small62 (by omega) (fval_lt h hp x i (by omega))
      have h4 := small62 (by omega) (fmul_lt h h1 (fsq M P (i % M) x))
      rw [impl_Field_value.l0d_eq, if_pos (by rw [up_length]; omega), if_pos (by omega), if_pos (by rw [up_length]; omega), i_sq_v h i hx, bind_some', up_getD hi, i_mul_v h h1 h2, bind_some', bxor h3 h4, wrS hi (by omega), ← e, fval]
  rw [impl_Field_value.d_eq]
  exact key 0 (by omega)
theorem i_values_v {M P : Nat} (h : validB (M : Int) (P : Int) = true) {pn xs : List Nat} (hl : pn.length ≤ 1048576) (hp : ∀ y ∈ pn, y < 2 ^ M) (hlx : xs.length ≤ 1048576) (hx : ∀ y ∈ xs, y < 2 ^ M) :
    impl_Field_values.d (M : Int) (P : Int) (up pn) (up xs) = some (up (xs.map fun x => fval M P pn x pn.length)) := by
  rw [impl_Field_values.d_eq]
  refine build_gen (F := fun i acc => impl_Field_values.l0d (up pn) acc (up xs) ((up xs).length : Int) i (M : Int) (P : Int)) (n := xs.length) (g := fun i => ((fval M P pn (xs.getD i 0) pn.length : Nat) : Int)) ?_ ?_
  · intro i hi acc ha
    show impl_Field_values.l0d (up pn) acc (up xs) ((up xs).length : Int) (i : Int) (M : Int) (P : Int) = _
    rw [impl_Field_values.l0d_eq, if_pos (by rw [up_length]; omega), if_pos (by omega), if_pos (by rw [up_length]; omega), up_getD hi, i_value_v h hl hp (hx _ (getD_mem hi)), bind_some', if_pos (by omega), wrS hi (by omega)]
  · show impl_Field_values.l0d (up pn) _ (up xs) ((up xs).length : Int) (xs.length : Int) (M : Int) (P : Int) = _
    rw [impl_Field_values.l0d_eq, if_neg (by rw [up_length]; omega), range_up xs fun x => fval M P pn x pn.length]
end Go.Proofs.Ytkhjoomjjdgkjaa.P
end
section
namespace Go.Proofs.Ytkhjoomjjdgkjaa.P
set_option linter.unusedVariables false
set_option linter.unusedSimpArgs false
/-- the sum of the rows that a list of yes and no tells -/
def sel : List Bool → List Nat → Nat
  | c :: s, r :: L => (if c = true then r else 0) ^^^ sel s L
  | _, _ => 0
theorem sel_append : ∀ (s : List Bool) (A : List Nat) (t : List Bool) (B : List Nat), s.length = A.length → sel (s ++ t) (A ++ B) = sel s A ^^^ sel t B
  | [], [], t, B, _ => by simp [sel]
  | c :: s, r :: A, t, B, h => by
    simp only [List.cons_append, sel]
    rw [sel_append s A t B (by simpa using h), Nat.xor_assoc]
  | [], _ :: _, _, _, h => by simp at h
  | _ :: _, [], _, _, h => by simp at h
theorem sel_sp (L : List Nat) : ∀ (s : List Bool) (R : List Nat), (∀ r ∈ R, Sp L r) → Sp L (sel s R)
  | c :: s, r :: R, h => by
    rw [sel]
    refine Sp.xor ?_ (sel_sp L s R fun x hx => h x (by simp [hx]))
    split
    · exact h r (by simp)
    · exact Sp.zero
  | [], R, _ => by rw [sel]; exact Sp.zero; intro _ _ _ _ e; cases e
  | _ :: _, [], _ => by rw [sel]; exact Sp.zero; intro _ _ _ _ _ e; cases e
theorem sel_none : ∀ (L : List Nat), sel (List.replicate L.length false) L = 0
  | [] => rfl
  | r :: L => by simp only [List.length_cons, List.replicate_succ, sel]; rw [sel_none L]; simp
/-- some of the rows have the sum 0 -/
def Dep (L : List Nat) : Prop := ∃ s : List Bool, s.length = L.length ∧ true ∈ s ∧ sel s L = 0
theorem sel_map {l0 : Nat} (f : Nat → Nat) (hf : ∀ l, f l = l ∨ f l = l ^^^ l0) : ∀ (s : List Bool) (L : List Nat), ∃ c : Bool, sel s (L.map f) = sel s L ^^^ (if c = true then l0 else 0)
  | b :: s, r :: L => by
    obtain ⟨c, e⟩ := sel_map f hf s L
    simp only [List.map_cons, sel]
    rw [e]
    by_cases hb : b = true
    · rw [if_pos hb, if_pos hb]
      rcases hf r with h | h
      · exact ⟨c, by rw [h, Nat.xor_assoc]⟩
      · rw [h]
        refine ⟨!c, ?_⟩
        cases c
        · simp only [Bool.not_false, if_true, Bool.false_eq_true, if_false, Nat.xor_zero]
          rw [Nat.xor_assoc, Nat.xor_comm l0, ← Nat.xor_assoc]
        · simp only [Bool.not_true, if_true, Bool.false_eq_true, if_false, Nat.xor_zero]
          rw [Nat.xor_assoc, Nat.xor_comm l0, Nat.xor_assoc, Nat.xor_self, Nat.xor_zero]
    · rw [if_neg hb, if_neg hb]
      exact ⟨c, by rw [Nat.xor_assoc]⟩
  | [], L => ⟨false, by simp [sel]⟩
  | _ :: _, [] => ⟨false, by simp [sel]⟩
theorem exch : ∀ (R L : List Nat), (∀ l ∈ L, Sp R l) → R.length < L.length → Dep L
  | [], L, h, hl => by
    cases L with
    | nil => simp at hl
    | cons l L =>
      have : l = 0 := (h l (by simp)).nil
      refine ⟨true :: List.replicate L.length false, by simp, by simp, ?_⟩
      simp only [sel]
      rw [sel_none, this]; rfl
  | r :: R, L, h, hl => by
    by_cases c : ∀ l ∈ L, Sp R l
    · exact exch R L c (by simp at hl; omega)
    · obtain ⟨l0, hl0, hn⟩ : ∃ l0 ∈ L, ¬ Sp R l0 := by
        apply Classical.byContradiction
        intro z
        exact c fun l hm => Classical.byContradiction fun w => z ⟨l, hm, w⟩
      have hr0 : Sp R (l0 ^^^ r) := by
        rcases (h l0 hl0).cons with w | w
        · exact absurd w hn
        · exact w
      obtain ⟨A, B, rfl⟩ := List.append_of_mem hl0
      have hf : ∀ l, ∃ y, (y = l ∨ y = l ^^^ l0) ∧ (Sp (r :: R) l → Sp R y) := by
        intro l
        by_cases w : Sp R l
        · exact ⟨l, .inl rfl, fun _ => w⟩
        · refine ⟨l ^^^ l0, .inr rfl, fun hs => ?_⟩
          rcases hs.cons with z | z
          · exact absurd z w
          · have := z.xor hr0
            rwa [Nat.xor_assoc, Nat.xor_comm l0 r, ← Nat.xor_assoc r r, Nat.xor_self, Nat.zero_xor] at this
      obtain ⟨f, hf⟩ := Classical.axiomOfChoice hf
      have hd : Dep ((A ++ B).map f) := by
        refine exch R _ ?_ (by simp at hl ⊢; omega)
        intro y hy
        obtain ⟨l, hm, rfl⟩ := List.mem_map.mp hy
        exact (hf l).2 (h l (by
          rcases List.mem_append.mp hm with z | z
          · simp [z]
          · simp [z]))
      obtain ⟨s, e1, e2, e3⟩ := hd
      obtain ⟨d, e4⟩ := sel_map (l0 := l0) f (fun l => (hf l).1) s (A ++ B)
      rw [e3] at e4
      simp only [List.length_map, List.length_append] at e1
      have es : s = s.take A.length ++ s.drop A.length := (List.take_append_drop ..).symm
      have el : (s.take A.length).length = A.length := by rw [List.length_take]; omega
      rw [es, sel_append _ _ _ _ el] at e4
      refine ⟨s.take A.length ++ d :: s.drop A.length, by simp; omega, ?_, ?_⟩
      · rw [es] at e2
        rcases List.mem_append.mp e2 with z | z
        · exact List.mem_append.mpr (.inl z)
        · exact List.mem_append.mpr (.inr (List.mem_cons_of_mem _ z))
      · rw [sel_append _ _ _ _ el, sel, Nat.xor_comm (if d = true then l0 else 0), ← Nat.xor_assoc]
        exact e4.symm
/-- the sum of the n lowest bits -/
def par : Nat → Nat → Bool
  | 0, _ => false
  | n + 1, x => xor (x.testBit 0) (par n (x / 2))
theorem par_zero : ∀ n, par n 0 = false
  | 0 => rfl
  | n + 1 => by rw [par, Nat.zero_div, par_zero n]; simp
theorem xor_half (x y : Nat) : (x ^^^ y) / 2 = x / 2 ^^^ y / 2 := by
  apply Nat.eq_of_testBit_eq
  intro i
  rw [Nat.testBit_xor, Nat.testBit_div_two, Nat.testBit_div_two, Nat.testBit_div_two, Nat.testBit_xor]
theorem par_xor : ∀ n x y, par n (x ^^^ y) = xor (par n x) (par n y)
  | 0, _, _ => rfl
  | n + 1, x, y => by
    rw [par, par, par, xor_half, par_xor n, Nat.testBit_xor]
    cases x.testBit 0 <;> cases y.testBit 0 <;> cases par n (x / 2) <;> cases par n (y / 2) <;> rfl
/-- the product of two rows of n places -/
def dot (n a b : Nat) : Bool := par n (a &&& b)
theorem dot_xor (n a b c : Nat) : dot n a (b ^^^ c) = xor (dot n a b) (dot n a c) := by
  unfold dot
  rw [← par_xor]
  congr 1
  apply Nat.eq_of_testBit_eq
  intro i
  simp only [Nat.testBit_and, Nat.testBit_xor]
  cases a.testBit i <;> simp
theorem dot_zero (n a : Nat) : dot n a 0 = false := by unfold dot; rw [Nat.and_zero, par_zero]
/-- x has the product 0 with all rows -/
def Ker (n : Nat) (rows : List Nat) (x : Nat) : Prop := x < 2 ^ n ∧ ∀ r ∈ rows, dot n r x = false
theorem Ker.zero (n : Nat) (rows : List Nat) : Ker n rows 0 := ⟨Nat.two_pow_pos n, fun r _ => dot_zero n r⟩
theorem Ker.xor {n : Nat} {rows : List Nat} {x y : Nat} (hx : Ker n rows x) (hy : Ker n rows y) : Ker n rows (x ^^^ y) :=
  ⟨Nat.xor_lt_two_pow hx.1 hy.1, fun r hr => by rw [dot_xor, hx.2 r hr, hy.2 r hr]; rfl⟩
theorem Ker.sp {n : Nat} {rows V : List Nat} (h : ∀ v ∈ V, Ker n rows v) {x : Nat} (hx : Sp V x) : Ker n rows x := by
  induction hx with
  | zero => exact Ker.zero n rows
  | add hr _ ih => exact ih.xor (h _ hr)
/-- the leads of the rows that have the place c -/
def lc (c : Nat) : List Nat → List Nat → Nat
  | r :: R, d :: C => (if r.testBit c = true then 2 ^ d else 0) ^^^ lc c R C
  | _, _ => 0
end Go.Proofs.Ytkhjoomjjdgkjaa.P
end
section
namespace Go.Proofs.Ytkhjoomjjdgkjaa.P
open Go.RowKit Go.Proofs.YtkhjoomjjdgkjaaW.PrintWords Go.Proofs.YtkhjoomjjdgkjaaW.PrintLast Go.Proofs.YtkhjoomjjdgkjaaW.PrintMore
set_option linter.unusedVariables false
set_option linter.unusedSimpArgs false
theorem and255 (x : Int) : 0 ≤ Go.bits .and .u64 x 255 ∧ Go.bits .and .u64 x 255 ≤ 255 := by
  have e : Go.bits .and .u64 x 255 = IntKind.u64.wrap ((BitVec.ofInt IntKind.u64.bits x &&& BitVec.ofInt IntKind.u64.bits 255).toNat : Int) := rfl
  rw [e, BitVec.toNat_and]
  have h : (BitVec.ofInt IntKind.u64.bits x).toNat &&& (BitVec.ofInt IntKind.u64.bits 255).toNat ≤ 255 := Nat.and_le_right
  generalize (BitVec.ofInt IntKind.u64.bits x).toNat &&& (BitVec.ofInt IntKind.u64.bits 255).toNat = z at h
  rw [IntKind.wrap_u64]
  omega
def Bytes (l : List Int) : Prop := ∀ x ∈ l, 0 ≤ x ∧ x ≤ 255
theorem byte_at {l : List Int} (hb : Bytes l) {i : Int} : 0 ≤ rd l i ∧ rd l i ≤ 255 := by
  by_cases h : i.toNat < l.length
  · have : rd l i = l[i.toNat] := by simp [rd, List.getD, h]
    rw [this]; exact hb _ (List.getElem_mem h)
  · have : rd l i = 0 := by simp [rd, List.getD, h]
    rw [this]; omega
theorem next_v {l : List Int} (hb : Bytes l) (hl : l.length ≤ 4000) {a : Int} (h0 : 0 ≤ a) (h1 : a ≤ 1000000) (s : Int) : ∃ v t, spec_l00Src_next.f l a s = some (v, a + 1, t) ∧ 0 ≤ v ∧ v ≤ 255 := by
  unfold spec_l00Src_next.f
  have hby := byte_at hb (i := a)
  have ha : wrap64 (a + 1) = a + 1 := wr (by omega) (by omega)
  rw [ha]
  by_cases c : a < (l.length : Int)
  · rw [if_pos c, if_pos h0, if_pos (by omega), wr (x := rd l a) (by omega) (by omega)]
    exact ⟨_, _, rfl, hby.1, hby.2⟩
  · rw [if_neg c, if_neg (by omega)]
    have := and255 ((IntKind.u64.wrap ((IntKind.u64.wrap ((IntKind.u64.wrap (s * 6364136223846793005)))) + 1442695040888963407)) / 1099511627776)
    rw [wr (x := Go.bits .and .u64 _ 255) (by omega) (by omega)]
    exact ⟨_, _, rfl, this.1, this.2⟩
theorem tmod_pos {v n : Int} (h0 : 0 ≤ v) (hn : 0 < n) : 0 ≤ Int.tmod v n ∧ Int.tmod v n < n := ⟨Int.tmod_nonneg _ h0, Int.tmod_lt_of_pos _ hn⟩
theorem pick_v {l : List Int} (hb : Bytes l) (hl : l.length ≤ 4000) {a : Int} (h0 : 0 ≤ a) (h1 : a ≤ 900000) (s n : Int) (hn : n ≤ 100000) :
    ∃ v b t, spec_l00Src_pick.f l a s n = some (v, b, t) ∧ 0 ≤ v ∧ (1 ≤ n → v < n) ∧ v ≤ 100000 ∧ a ≤ b ∧ b ≤ a + 2 := by
  unfold spec_l00Src_pick.f
  by_cases c : n ≤ 1
  · rw [if_pos c]; exact ⟨0, a, s, rfl, by omega, fun _ => by omega, by omega, by omega, by omega⟩
  · rw [if_neg c]
    obtain ⟨v, t, e, v0, v1⟩ := next_v hb hl h0 (by omega) s
    rw [e, bind_some']
    by_cases d : n > 200
    · obtain ⟨v', t', e', v0', v1'⟩ := next_v hb hl (a := a + 1) (by omega) (by omega) t
      have e2 : spec_l00Src_next.f l (v, a + 1, t).2.1 (v, a + 1, t).2.2 = some (v', a + 1 + 1, t') := e'
      rw [if_pos d, e2, bind_some', if_neg (by omega)]
      have w : wrap64 (wrap64 ((v, a + 1, t).1 * 256) + (v', a + 1 + 1, t').1) = v * 256 + v' := by
        show wrap64 (wrap64 (v * 256) + v') = _
        rw [wr (x := v * 256) (by omega) (by omega), wr (by omega) (by omega)]
      rw [w]
      have := tmod_pos (v := v * 256 + v') (n := n) (by omega) (by omega)
      exact ⟨_, _, _, rfl, this.1, fun _ => this.2, by omega, by show a ≤ a + 1 + 1; omega, by show a + 1 + 1 ≤ a + 2; omega⟩
    · rw [if_neg d, if_neg (by omega)]
      have := tmod_pos (v := v) (n := n) v0 (by omega)
      exact ⟨_, _, _, rfl, this.1, fun _ => this.2, by show Int.tmod v n ≤ _; omega, by show a ≤ a + 1; omega, by show a + 1 ≤ a + 2; omega⟩
theorem bytes_of {l : List Int} (h : ∀ x ∈ l, (Lit.int .u8 x).wf = true) : Bytes l := by
  intro x hx
  have := h x hx
  have e1 : IntKind.u8.min = 0 := by decide
  have e2 : IntKind.u8.max = 255 := by decide
  simp [Lit.wf, e1, e2] at this
  omega
end Go.Proofs.Ytkhjoomjjdgkjaa.P
end
