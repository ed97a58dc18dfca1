/- What the functions of the law FnExactEdgesInto tell without rounds, and its pure statement. -/
import Derived.Test.YtbalkaphibnpcaaPx0
import Derived.Test.YtbalkaphibnpcaaPx1
import Derived.Test.YtbalkaphibnpcaaPx5
import Derived.Test.YtbalkaphibnpcaaPx6
import Derived.Test.YtbalkaphibnpcaaPx30
import Derived.Test.YtbalkaphibnpcaaPx31
import Derived.Test.YtbalkaphibnpcaaPx32
import Derived.Test.YtbalkaphibnpcaaPx3
import Derived.Test.YtbalkaphibnpcaaPx33
import Derived.Test.YtbalkaphibnpcaaPx7
import Derived.Test.YtbalkaphibnpcaaPx34
import Derived.Test.YtbalkaphibnpcaaPx35
import Derived.Test.YtbalkaphibnpcaaPx8
import Derived.Test.YtbalkaphibnpcaaPx36
import Derived.Test.YtbalkaphibnpcaaPx4
import Derived.Test.YtbalkaphibnpcaaPx17
import Derived.Test.YtbalkaphibnpcaaPx37
import Derived.Test.YtbalkaphibnpcaaPx49
import Derived.ProofKit
section
namespace Go.Proofs.Ytbalkaphibnpcaa.P
open Go.RowKit Go.Proofs.YtbalkaphibnpcaaW.PrintWords Go.Proofs.YtbalkaphibnpcaaW.PrintLast Go.Proofs.YtbalkaphibnpcaaW.PrintMore
def IsLim {α : Type} (g : Nat → Option α) (v : Option α) : Prop := (∀ k, LeO (g k) (g (k + 1))) ∧ ∀ r, v = some r ↔ ∃ k, g k = some r
theorem leO_le {α : Type} {g : Nat → Option α} (h : ∀ k, LeO (g k) (g (k + 1))) {j k : Nat} (hjk : j ≤ k) : LeO (g j) (g k) := by
  induction hjk with
  | refl => exact fun _ e => e
  | step _ ih => exact fun r e => h _ r (ih r e)
open Classical in
noncomputable def lim {α : Type} (g : Nat → Option α) : Option α := if h : ∃ r, ∃ k, g k = some r then some h.choose else none
theorem lim_spec {α : Type} {g : Nat → Option α} (h : ∀ k, LeO (g k) (g (k + 1))) : IsLim g (lim g) := by
  refine ⟨h, fun r => ?_⟩
  unfold lim
  by_cases hx : ∃ r, ∃ k, g k = some r
  · rw [dif_pos hx]
    obtain ⟨k, hk⟩ := hx.choose_spec
    constructor
    · intro e; exact ⟨k, by rw [hk]; exact e⟩
    · rintro ⟨j, hj⟩
      have a := leO_le h (Nat.le_max_left j k) _ hj
      have b := leO_le h (Nat.le_max_right j k) _ hk
      rw [a] at b; exact b.symm
  · rw [dif_neg hx]
    constructor
    · intro e; cases e
    · rintro ⟨k, hk⟩; exact absurd ⟨r, k, hk⟩ hx
theorem IsLim.unique {α : Type} {g : Nat → Option α} {v v' : Option α} (h : IsLim g v) (h' : IsLim g v') : v = v' :=
  Option.ext fun r => (h.2 r).trans (h'.2 r).symm
theorem IsLim.const {α : Type} (v : Option α) : IsLim (fun _ => v) v := ⟨fun _ _ e => e, fun _ => ⟨fun e => ⟨0, e⟩, fun ⟨_, e⟩ => e⟩⟩
theorem IsLim.ite {α : Type} {c : Prop} [Decidable c] {g g' : Nat → Option α} {v v' : Option α} (h : IsLim g v) (h' : IsLim g' v') :
    IsLim (fun k => if c then g k else g' k) (if c then v else v') := by
  by_cases hc : c
  · simp only [if_pos hc]; exact h
  · simp only [if_neg hc]; exact h'
theorem IsLim.bind {α β : Type} {g : Nat → Option α} {v : Option α} {q : Nat → α → Option β} {w : α → Option β}
    (h : IsLim g v) (hq : ∀ x, IsLim (fun k => q k x) (w x)) : IsLim (fun k => (g k).bind (q k)) (v.bind w) := by
  refine ⟨fun k r e => ?_, fun r => ?_⟩
  · obtain ⟨x, hx, hr⟩ := Option.bind_eq_some_iff.mp e
    exact Option.bind_eq_some_iff.mpr ⟨x, h.1 k x hx, (hq x).1 k r hr⟩
  · constructor
    · intro e
      obtain ⟨x, hx, hr⟩ := Option.bind_eq_some_iff.mp e
      obtain ⟨j, hj⟩ := (h.2 x).mp hx
      obtain ⟨k, hk⟩ := ((hq x).2 r).mp hr
      exact ⟨max j k, Option.bind_eq_some_iff.mpr ⟨x, leO_le h.1 (Nat.le_max_left j k) _ hj, leO_le (hq x).1 (Nat.le_max_right j k) _ hk⟩⟩
    · rintro ⟨k, e⟩
      obtain ⟨x, hx, hr⟩ := Option.bind_eq_some_iff.mp e
      exact Option.bind_eq_some_iff.mpr ⟨x, (h.2 x).mpr ⟨k, hx⟩, ((hq x).2 r).mpr ⟨k, hr⟩⟩
theorem IsLim.shift {α : Type} {g : Nat → Option α} {v : Option α} (h0 : g 0 = none) (h : IsLim (fun k => g (k + 1)) v) : IsLim g v := by
  refine ⟨fun k => ?_, fun r => ?_⟩
  · cases k with
    | zero => intro r e; rw [h0] at e; cases e
    | succ k => exact h.1 k
  · rw [h.2 r]
    constructor
    · rintro ⟨k, e⟩; exact ⟨k + 1, e⟩
    · rintro ⟨k, e⟩
      cases k with
      | zero => rw [h0] at e; cases e
      | succ k => exact ⟨k, e⟩
theorem IsLim.some_ {α : Type} {g : Nat → Option α} {v : Option α} {r : α} (h : IsLim g v) (e : v = some r) : ∃ k, g k = some r := (h.2 r).mp e
end Go.Proofs.Ytbalkaphibnpcaa.P
end
section
namespace Go.Proofs.Ytbalkaphibnpcaa.P
open Go.RowKit Go.Proofs.YtbalkaphibnpcaaW.PrintWords Go.Proofs.YtbalkaphibnpcaaW.PrintLast Go.Proofs.YtbalkaphibnpcaaW.PrintMore
set_option linter.unusedVariables false
set_option linter.unusedSimpArgs false
noncomputable def laws_toInt64S.l0d (x0 : List Int) (x3 : List Int) (x4 : Int) : Option (List Int) := lim (fun k => laws_toInt64S.l0 k x0 x3 x4)
theorem laws_toInt64S.l0lim (x0 : List Int) (x3 : List Int) (x4 : Int) : IsLim (fun k => laws_toInt64S.l0 k x0 x3 x4) (laws_toInt64S.l0d x0 x3 x4) := lim_spec (fun k => (laws_toInt64S.mono_l k) x0 x3 x4)
theorem laws_toInt64S.l0d_eq (x0 : List Int) (x3 : List Int) (x4 : Int) : laws_toInt64S.l0d x0 x3 x4 = if x4 < (x0.length : Int) then (if 0 ≤ x4 then (if x4 < (x3.length : Int) then (laws_toInt64S.l0d x0 (x3.set (x4 : Int).toNat (rd x0 x4)) (wrap64 (x4 + 1))) else (none)) else (none)) else (some x3) := by
  refine IsLim.unique (laws_toInt64S.l0lim _ _ _) ?_
  refine IsLim.shift (by rfl) ?_
  simp only [laws_toInt64S.l0]
  repeat' (first | exact IsLim.const _ | refine IsLim.ite ?_ ?_ | refine IsLim.bind ?_ (fun _ => ?_) | exact laws_toInt64S.l0lim ..)
noncomputable def laws_toInt64S.d (l0 : List Int) : Option (List Int) := lim (fun k => laws_toInt64S.f k l0)
theorem laws_toInt64S.lim (l0 : List Int) : IsLim (fun k => laws_toInt64S.f k l0) (laws_toInt64S.d l0) := lim_spec (fun k => laws_toInt64S.mono l0 k)
theorem laws_toInt64S.d_eq (l0 : List Int) : laws_toInt64S.d l0 = if 0 ≤ (l0.length : Int) then (if ((l0.length : Int) : Int).toNat ≤ 35184372088832 then (laws_toInt64S.l0d l0 (List.replicate ((l0.length : Int) : Int).toNat 0) 0) else (none)) else (none) := by
  refine IsLim.unique (laws_toInt64S.lim _) ?_
  unfold laws_toInt64S.f
  repeat' (first | exact IsLim.const _ | refine IsLim.ite ?_ ?_ | refine IsLim.bind ?_ (fun _ => ?_) | exact laws_toInt64S.l0lim ..)
noncomputable def laws_eqInt64S.l0d (x0 : List Int) (x1 : List Int) (x5 : Int) : Option (Bool) := lim (fun k => laws_eqInt64S.l0 k x0 x1 x5)
theorem laws_eqInt64S.l0lim (x0 : List Int) (x1 : List Int) (x5 : Int) : IsLim (fun k => laws_eqInt64S.l0 k x0 x1 x5) (laws_eqInt64S.l0d x0 x1 x5) := lim_spec (fun k => (laws_eqInt64S.mono_l k) x0 x1 x5)
theorem laws_eqInt64S.l0d_eq (x0 : List Int) (x1 : List Int) (x5 : Int) : laws_eqInt64S.l0d x0 x1 x5 = if x5 < (x0.length : Int) then (if 0 ≤ x5 then (if x5 < (x1.length : Int) then (if (rd x0 x5) = (rd x1 x5) then (laws_eqInt64S.l0d x0 x1 (wrap64 (x5 + 1))) else (some false)) else (none)) else (none)) else (some true) := by
  refine IsLim.unique (laws_eqInt64S.l0lim _ _ _) ?_
  refine IsLim.shift (by rfl) ?_
  simp only [laws_eqInt64S.l0]
  repeat' (first | exact IsLim.const _ | refine IsLim.ite ?_ ?_ | refine IsLim.bind ?_ (fun _ => ?_) | exact laws_eqInt64S.l0lim ..)
noncomputable def laws_eqInt64S.d (l0 : List Int) (l1 : List Int) : Option (Bool) := lim (fun k => laws_eqInt64S.f k l0 l1)
theorem laws_eqInt64S.lim (l0 : List Int) (l1 : List Int) : IsLim (fun k => laws_eqInt64S.f k l0 l1) (laws_eqInt64S.d l0 l1) := lim_spec (fun k => laws_eqInt64S.mono l0 l1 k)
theorem laws_eqInt64S.d_eq (l0 : List Int) (l1 : List Int) : laws_eqInt64S.d l0 l1 = if (l0.length : Int) = (l1.length : Int) then (laws_eqInt64S.l0d l0 l1 0) else (some false) := by
  refine IsLim.unique (laws_eqInt64S.lim _ _) ?_
  unfold laws_eqInt64S.f
  repeat' (first | exact IsLim.const _ | refine IsLim.ite ?_ ?_ | refine IsLim.bind ?_ (fun _ => ?_) | exact laws_eqInt64S.l0lim ..)
end Go.Proofs.Ytbalkaphibnpcaa.P
end
section
namespace Go.Proofs.Ytbalkaphibnpcaa.P
open Go.RowKit Go.Proofs.YtbalkaphibnpcaaW.PrintWords Go.Proofs.YtbalkaphibnpcaaW.PrintLast Go.Proofs.YtbalkaphibnpcaaW.PrintMore
set_option linter.unusedVariables false
set_option linter.unusedSimpArgs false
noncomputable def laws_szInt64SS.l0d (x0 : List (List Int)) (x1 : Int) (x5 : Int) : Option (Int) := lim (fun k => laws_szInt64SS.l0 k x0 x1 x5)
theorem laws_szInt64SS.l0lim (x0 : List (List Int)) (x1 : Int) (x5 : Int) : IsLim (fun k => laws_szInt64SS.l0 k x0 x1 x5) (laws_szInt64SS.l0d x0 x1 x5) := lim_spec (fun k => (laws_szInt64SS.mono_l k) x0 x1 x5)
theorem laws_szInt64SS.l0d_eq (x0 : List (List Int)) (x1 : Int) (x5 : Int) : laws_szInt64SS.l0d x0 x1 x5 = if x5 < (x0.length : Int) then (if 0 ≤ x5 then ((laws_szInt64S.f (rd_L1 x0 x5) x1).bind fun t102 => (if t102 < 0 then (some (-1)) else (laws_szInt64SS.l0d x0 t102 (wrap64 (x5 + 1))))) else (none)) else (some x1) := by
  refine IsLim.unique (laws_szInt64SS.l0lim _ _ _) ?_
  refine IsLim.shift (by rfl) ?_
  simp only [laws_szInt64SS.l0]
  repeat' (first | exact IsLim.const _ | refine IsLim.ite ?_ ?_ | refine IsLim.bind ?_ (fun _ => ?_) | exact laws_szInt64SS.l0lim ..)
noncomputable def laws_szInt64SS.d (l0 : List (List Int)) (a1 : Int) : Option (Int) := lim (fun k => laws_szInt64SS.f k l0 a1)
theorem laws_szInt64SS.lim (l0 : List (List Int)) (a1 : Int) : IsLim (fun k => laws_szInt64SS.f k l0 a1) (laws_szInt64SS.d l0 a1) := lim_spec (fun k => laws_szInt64SS.mono l0 a1 k)
theorem laws_szInt64SS.d_eq (l0 : List (List Int)) (a1 : Int) : laws_szInt64SS.d l0 a1 = if (wrap64 (a1 - (l0.length : Int))) < 0 then (some (-1)) else (laws_szInt64SS.l0d l0 (wrap64 (a1 - (l0.length : Int))) 0) := by
  refine IsLim.unique (laws_szInt64SS.lim _ _) ?_
  unfold laws_szInt64SS.f
  repeat' (first | exact IsLim.const _ | refine IsLim.ite ?_ ?_ | refine IsLim.bind ?_ (fun _ => ?_) | exact laws_szInt64SS.l0lim ..)
noncomputable def spec_l01Degree.d (a0 : Int) : Option (Int) := lim (fun k => spec_l01Degree.f k a0)
theorem spec_l01Degree.lim (a0 : Int) : IsLim (fun k => spec_l01Degree.f k a0) (spec_l01Degree.d a0) := lim_spec (fun k => spec_l01Degree.mono a0 k)
noncomputable def spec_l01Irreducible.d (a0 : Int) : Option (Bool) := lim (fun k => spec_l01Irreducible.f k a0)
theorem spec_l01Irreducible.lim (a0 : Int) : IsLim (fun k => spec_l01Irreducible.f k a0) (spec_l01Irreducible.d a0) := lim_spec (fun k => spec_l01Irreducible.mono a0 k)
noncomputable def spec_IsIrreducible.d (a0 : Int) : Option (Bool) := lim (fun k => spec_IsIrreducible.f k a0)
theorem spec_IsIrreducible.lim (a0 : Int) : IsLim (fun k => spec_IsIrreducible.f k a0) (spec_IsIrreducible.d a0) := lim_spec (fun k => spec_IsIrreducible.mono a0 k)
theorem spec_IsIrreducible.d_eq (a0 : Int) : spec_IsIrreducible.d a0 = if a0 > 0 then (if a0 < 64 then ((spec_l01Irreducible.d a0).bind fun t109 => (some t109)) else (some false)) else (some false) := by
  refine IsLim.unique (spec_IsIrreducible.lim _) ?_
  unfold spec_IsIrreducible.f
  repeat' (first | exact IsLim.const _ | refine IsLim.ite ?_ ?_ | refine IsLim.bind ?_ (fun _ => ?_) | exact spec_l01Irreducible.lim ..)
noncomputable def spec_l01Ok.d (a0_0 : Int) (a0_1 : Int) : Option (Bool) := lim (fun k => spec_l01Ok.f k a0_0 a0_1)
theorem spec_l01Ok.lim (a0_0 : Int) (a0_1 : Int) : IsLim (fun k => spec_l01Ok.f k a0_0 a0_1) (spec_l01Ok.d a0_0 a0_1) := lim_spec (fun k => spec_l01Ok.mono a0_0 a0_1 k)
theorem spec_l01Ok.d_eq (a0_0 : Int) (a0_1 : Int) : spec_l01Ok.d a0_0 a0_1 = (spec_l00In.f a0_0 1 5).bind fun t111 => (if t111 = true then ((spec_IsIrreducible.d a0_1).bind fun t112 => (if t112 = true then ((spec_l01Degree.d a0_1).bind fun t113 => (some (t113 == a0_0))) else (some false))) else (some false)) := by
  refine IsLim.unique (spec_l01Ok.lim _ _) ?_
  unfold spec_l01Ok.f
  repeat' (first | exact IsLim.const _ | refine IsLim.ite ?_ ?_ | refine IsLim.bind ?_ (fun _ => ?_) | exact spec_IsIrreducible.lim .. | exact spec_l01Degree.lim ..)
end Go.Proofs.Ytbalkaphibnpcaa.P
end
section
namespace Go.Proofs.Ytbalkaphibnpcaa.P
open Go.RowKit Go.Proofs.YtbalkaphibnpcaaW.PrintWords Go.Proofs.YtbalkaphibnpcaaW.PrintLast Go.Proofs.YtbalkaphibnpcaaW.PrintMore
set_option linter.unusedVariables false
set_option linter.unusedSimpArgs false
noncomputable def spec_l04Elements.l0d (x1 : List Int) (x5 : Int) (x116000 : Int) (x116001 : Int) : Option (Bool) := lim (fun k => spec_l04Elements.l0 k x1 x5 x116000 x116001)
theorem spec_l04Elements.l0lim (x1 : List Int) (x5 : Int) (x116000 : Int) (x116001 : Int) : IsLim (fun k => spec_l04Elements.l0 k x1 x5 x116000 x116001) (spec_l04Elements.l0d x1 x5 x116000 x116001) := lim_spec (fun k => (spec_l04Elements.mono_l k) x1 x5 x116000 x116001)
theorem spec_l04Elements.l0d_eq (x1 : List Int) (x5 : Int) (x116000 : Int) (x116001 : Int) : spec_l04Elements.l0d x1 x5 x116000 x116001 = if x5 < (x1.length : Int) then (if 0 ≤ x5 then ((spec_l01Size.f x116000 x116001).bind fun t117 => ((spec_l00In.f (rd x1 x5) 0 (wrap64 (t117 - 1))).bind fun t118 => (if t118 = true then (spec_l04Elements.l0d x1 (wrap64 (x5 + 1)) x116000 x116001) else (some false)))) else (none)) else (some true) := by
  refine IsLim.unique (spec_l04Elements.l0lim _ _ _ _) ?_
  refine IsLim.shift (by rfl) ?_
  simp only [spec_l04Elements.l0]
  repeat' (first | exact IsLim.const _ | refine IsLim.ite ?_ ?_ | refine IsLim.bind ?_ (fun _ => ?_) | exact spec_l04Elements.l0lim ..)
noncomputable def spec_l04Elements.d (a0_0 : Int) (a0_1 : Int) (l1 : List Int) : Option (Bool) := lim (fun k => spec_l04Elements.f k a0_0 a0_1 l1)
theorem spec_l04Elements.lim (a0_0 : Int) (a0_1 : Int) (l1 : List Int) : IsLim (fun k => spec_l04Elements.f k a0_0 a0_1 l1) (spec_l04Elements.d a0_0 a0_1 l1) := lim_spec (fun k => spec_l04Elements.mono a0_0 a0_1 l1 k)
theorem spec_l04Elements.d_eq (a0_0 : Int) (a0_1 : Int) (l1 : List Int) : spec_l04Elements.d a0_0 a0_1 l1 = spec_l04Elements.l0d l1 0 a0_0 a0_1 := by
  refine IsLim.unique (spec_l04Elements.lim _ _ _) ?_
  unfold spec_l04Elements.f
  repeat' (first | exact IsLim.const _ | refine IsLim.ite ?_ ?_ | refine IsLim.bind ?_ (fun _ => ?_) | exact spec_l04Elements.l0lim ..)
noncomputable def laws_toInt64SS.l0d (x0 : List (List Int)) (x3 : List (List Int)) (x4 : Int) : Option ((List (List Int))) := lim (fun k => laws_toInt64SS.l0 k x0 x3 x4)
theorem laws_toInt64SS.l0lim (x0 : List (List Int)) (x3 : List (List Int)) (x4 : Int) : IsLim (fun k => laws_toInt64SS.l0 k x0 x3 x4) (laws_toInt64SS.l0d x0 x3 x4) := lim_spec (fun k => (laws_toInt64SS.mono_l k) x0 x3 x4)
theorem laws_toInt64SS.l0d_eq (x0 : List (List Int)) (x3 : List (List Int)) (x4 : Int) : laws_toInt64SS.l0d x0 x3 x4 = if x4 < (x0.length : Int) then (if 0 ≤ x4 then ((laws_toInt64S.d (rd_L1 x0 x4)).bind fun t203 => (if x4 < (x3.length : Int) then (laws_toInt64SS.l0d x0 (x3.set (x4 : Int).toNat t203) (wrap64 (x4 + 1))) else (none))) else (none)) else (some x3) := by
  refine IsLim.unique (laws_toInt64SS.l0lim _ _ _) ?_
  refine IsLim.shift (by rfl) ?_
  simp only [laws_toInt64SS.l0]
  repeat' (first | exact IsLim.const _ | refine IsLim.ite ?_ ?_ | refine IsLim.bind ?_ (fun _ => ?_) | exact laws_toInt64S.lim .. | exact laws_toInt64SS.l0lim ..)
noncomputable def laws_toInt64SS.d (l0 : List (List Int)) : Option ((List (List Int))) := lim (fun k => laws_toInt64SS.f k l0)
theorem laws_toInt64SS.lim (l0 : List (List Int)) : IsLim (fun k => laws_toInt64SS.f k l0) (laws_toInt64SS.d l0) := lim_spec (fun k => laws_toInt64SS.mono l0 k)
theorem laws_toInt64SS.d_eq (l0 : List (List Int)) : laws_toInt64SS.d l0 = if 0 ≤ (l0.length : Int) then (if ((l0.length : Int) : Int).toNat ≤ 11728124029610 then (laws_toInt64SS.l0d l0 (List.replicate ((l0.length : Int) : Int).toNat []) 0) else (none)) else (none) := by
  refine IsLim.unique (laws_toInt64SS.lim _) ?_
  unfold laws_toInt64SS.f
  repeat' (first | exact IsLim.const _ | refine IsLim.ite ?_ ?_ | refine IsLim.bind ?_ (fun _ => ?_) | exact laws_toInt64SS.l0lim ..)
noncomputable def impl_degreeOf.d (a0 : Int) : Option (Int) := lim (fun k => impl_degreeOf.f k a0)
theorem impl_degreeOf.lim (a0 : Int) : IsLim (fun k => impl_degreeOf.f k a0) (impl_degreeOf.d a0) := lim_spec (fun k => impl_degreeOf.mono a0 k)
end Go.Proofs.Ytbalkaphibnpcaa.P
end
section
namespace Go.Proofs.Ytbalkaphibnpcaa.P
open Go.RowKit Go.Proofs.YtbalkaphibnpcaaW.PrintWords Go.Proofs.YtbalkaphibnpcaaW.PrintLast Go.Proofs.YtbalkaphibnpcaaW.PrintMore
set_option linter.unusedVariables false
set_option linter.unusedSimpArgs false
noncomputable def laws_szNet.d (a0_0 : Int) (a0_1 : Int) (a0_2 : Int) (a0_3 : Int) (l0_4 : List (List Int)) (l0_5 : List (List Int)) (a1 : Int) : Option (Int) := lim (fun k => laws_szNet.f k a0_0 a0_1 a0_2 a0_3 l0_4 l0_5 a1)
theorem laws_szNet.lim (a0_0 : Int) (a0_1 : Int) (a0_2 : Int) (a0_3 : Int) (l0_4 : List (List Int)) (l0_5 : List (List Int)) (a1 : Int) : IsLim (fun k => laws_szNet.f k a0_0 a0_1 a0_2 a0_3 l0_4 l0_5 a1) (laws_szNet.d a0_0 a0_1 a0_2 a0_3 l0_4 l0_5 a1) := lim_spec (fun k => laws_szNet.mono a0_0 a0_1 a0_2 a0_3 l0_4 l0_5 a1 k)
theorem laws_szNet.d_eq (a0_0 : Int) (a0_1 : Int) (a0_2 : Int) (a0_3 : Int) (l0_4 : List (List Int)) (l0_5 : List (List Int)) (a1 : Int) : laws_szNet.d a0_0 a0_1 a0_2 a0_3 l0_4 l0_5 a1 = (laws_szInt64SS.d l0_4 a1).bind fun t361 => (if t361 < 0 then (some (-1)) else ((laws_szInt64SS.d l0_5 t361).bind fun t362 => (if t362 < 0 then (some (-1)) else (some t362)))) := by
  refine IsLim.unique (laws_szNet.lim _ _ _ _ _ _ _) ?_
  unfold laws_szNet.f
  repeat' (first | exact IsLim.const _ | refine IsLim.ite ?_ ?_ | refine IsLim.bind ?_ (fun _ => ?_) | exact laws_szInt64SS.lim ..)
noncomputable def spec_l00Rises.l0d (x0 : List Int) (x1 : Int) (x2 : Int) (x7 : Int) : Option (Bool) := lim (fun k => spec_l00Rises.l0 k x0 x1 x2 x7)
theorem spec_l00Rises.l0lim (x0 : List Int) (x1 : Int) (x2 : Int) (x7 : Int) : IsLim (fun k => spec_l00Rises.l0 k x0 x1 x2 x7) (spec_l00Rises.l0d x0 x1 x2 x7) := lim_spec (fun k => (spec_l00Rises.mono_l k) x0 x1 x2 x7)
theorem spec_l00Rises.l0d_eq (x0 : List Int) (x1 : Int) (x2 : Int) (x7 : Int) : spec_l00Rises.l0d x0 x1 x2 x7 = if x7 < (x0.length : Int) then (if 0 ≤ x7 then ((spec_l00In.f (rd x0 x7) x1 x2).bind fun t364 => (if t364 = true then (if x7 > 0 then (if 0 ≤ (wrap64 (x7 - 1)) then (if (wrap64 (x7 - 1)) < (x0.length : Int) then (if (rd x0 (wrap64 (x7 - 1))) ≥ (rd x0 x7) then (some false) else (spec_l00Rises.l0d x0 x1 x2 (wrap64 (x7 + 1)))) else (none)) else (none)) else (spec_l00Rises.l0d x0 x1 x2 (wrap64 (x7 + 1)))) else (some false))) else (none)) else (some true) := by
  refine IsLim.unique (spec_l00Rises.l0lim _ _ _ _) ?_
  refine IsLim.shift (by rfl) ?_
  simp only [spec_l00Rises.l0]
  repeat' (first | exact IsLim.const _ | refine IsLim.ite ?_ ?_ | refine IsLim.bind ?_ (fun _ => ?_) | exact spec_l00Rises.l0lim ..)
noncomputable def spec_l00Rises.d (l0 : List Int) (a1 : Int) (a2 : Int) : Option (Bool) := lim (fun k => spec_l00Rises.f k l0 a1 a2)
theorem spec_l00Rises.lim (l0 : List Int) (a1 : Int) (a2 : Int) : IsLim (fun k => spec_l00Rises.f k l0 a1 a2) (spec_l00Rises.d l0 a1 a2) := lim_spec (fun k => spec_l00Rises.mono l0 a1 a2 k)
theorem spec_l00Rises.d_eq (l0 : List Int) (a1 : Int) (a2 : Int) : spec_l00Rises.d l0 a1 a2 = spec_l00Rises.l0d l0 a1 a2 0 := by
  refine IsLim.unique (spec_l00Rises.lim _ _ _) ?_
  unfold spec_l00Rises.f
  repeat' (first | exact IsLim.const _ | refine IsLim.ite ?_ ?_ | refine IsLim.bind ?_ (fun _ => ?_) | exact spec_l00Rises.l0lim ..)
noncomputable def spec_l07Into.l0d (x1 : Int) (x5 : List Int) (x6 : Int) (x41000 : Int) (x41001 : Int) (x41002 : Int) (x41003 : Int) (x41004 : List (List Int)) (x41005 : List (List Int)) : Option (List Int) := lim (fun k => spec_l07Into.l0 k x1 x5 x6 x41000 x41001 x41002 x41003 x41004 x41005)
theorem spec_l07Into.l0lim (x1 : Int) (x5 : List Int) (x6 : Int) (x41000 : Int) (x41001 : Int) (x41002 : Int) (x41003 : Int) (x41004 : List (List Int)) (x41005 : List (List Int)) : IsLim (fun k => spec_l07Into.l0 k x1 x5 x6 x41000 x41001 x41002 x41003 x41004 x41005) (spec_l07Into.l0d x1 x5 x6 x41000 x41001 x41002 x41003 x41004 x41005) := lim_spec (fun k => (spec_l07Into.mono_l k) x1 x5 x6 x41000 x41001 x41002 x41003 x41004 x41005)
theorem spec_l07Into.l0d_eq (x1 : Int) (x5 : List Int) (x6 : Int) (x41000 : Int) (x41001 : Int) (x41002 : Int) (x41003 : Int) (x41004 : List (List Int)) (x41005 : List (List Int)) : spec_l07Into.l0d x1 x5 x6 x41000 x41001 x41002 x41003 x41004 x41005 = if x6 < (x41004.length : Int) then (if 0 ≤ x6 then (if 1 < ((rd_L1 x41004 x6).length : Int) then (if (rd (rd_L1 x41004 x6) 1) = x1 then (if x5.length < 17592186044416 then (spec_l07Into.l0d x1 (x5 ++ [x6]) (wrap64 (x6 + 1)) x41000 x41001 x41002 x41003 x41004 x41005) else (none)) else (spec_l07Into.l0d x1 x5 (wrap64 (x6 + 1)) x41000 x41001 x41002 x41003 x41004 x41005)) else (none)) else (none)) else (some x5) := by
  refine IsLim.unique (spec_l07Into.l0lim _ _ _ _ _ _ _ _ _) ?_
  refine IsLim.shift (by rfl) ?_
  simp only [spec_l07Into.l0]
  repeat' (first | exact IsLim.const _ | refine IsLim.ite ?_ ?_ | refine IsLim.bind ?_ (fun _ => ?_) | exact spec_l07Into.l0lim ..)
noncomputable def spec_l07Into.d (a0_0 : Int) (a0_1 : Int) (a0_2 : Int) (a0_3 : Int) (l0_4 : List (List Int)) (l0_5 : List (List Int)) (a1 : Int) : Option (List Int) := lim (fun k => spec_l07Into.f k a0_0 a0_1 a0_2 a0_3 l0_4 l0_5 a1)
theorem spec_l07Into.lim (a0_0 : Int) (a0_1 : Int) (a0_2 : Int) (a0_3 : Int) (l0_4 : List (List Int)) (l0_5 : List (List Int)) (a1 : Int) : IsLim (fun k => spec_l07Into.f k a0_0 a0_1 a0_2 a0_3 l0_4 l0_5 a1) (spec_l07Into.d a0_0 a0_1 a0_2 a0_3 l0_4 l0_5 a1) := lim_spec (fun k => spec_l07Into.mono a0_0 a0_1 a0_2 a0_3 l0_4 l0_5 a1 k)
theorem spec_l07Into.d_eq (a0_0 : Int) (a0_1 : Int) (a0_2 : Int) (a0_3 : Int) (l0_4 : List (List Int)) (l0_5 : List (List Int)) (a1 : Int) : spec_l07Into.d a0_0 a0_1 a0_2 a0_3 l0_4 l0_5 a1 = spec_l07Into.l0d a1 (([] : List Int)) 0 a0_0 a0_1 a0_2 a0_3 l0_4 l0_5 := by
  refine IsLim.unique (spec_l07Into.lim _ _ _ _ _ _ _) ?_
  unfold spec_l07Into.f
  repeat' (first | exact IsLim.const _ | refine IsLim.ite ?_ ?_ | refine IsLim.bind ?_ (fun _ => ?_) | exact spec_l07Into.l0lim ..)
noncomputable def spec_l07Has.d (a0_0 : Int) (a0_1 : Int) (a0_2 : Int) (a0_3 : Int) (l0_4 : List (List Int)) (l0_5 : List (List Int)) (a1 : Int) : Option (Int) := lim (fun k => spec_l07Has.f k a0_0 a0_1 a0_2 a0_3 l0_4 l0_5 a1)
theorem spec_l07Has.lim (a0_0 : Int) (a0_1 : Int) (a0_2 : Int) (a0_3 : Int) (l0_4 : List (List Int)) (l0_5 : List (List Int)) (a1 : Int) : IsLim (fun k => spec_l07Has.f k a0_0 a0_1 a0_2 a0_3 l0_4 l0_5 a1) (spec_l07Has.d a0_0 a0_1 a0_2 a0_3 l0_4 l0_5 a1) := lim_spec (fun k => spec_l07Has.mono a0_0 a0_1 a0_2 a0_3 l0_4 l0_5 a1 k)
theorem spec_l07Has.d_eq (a0_0 : Int) (a0_1 : Int) (a0_2 : Int) (a0_3 : Int) (l0_4 : List (List Int)) (l0_5 : List (List Int)) (a1 : Int) : spec_l07Has.d a0_0 a0_1 a0_2 a0_3 l0_4 l0_5 a1 = if a1 = 0 then (some a0_3) else ((spec_l07Into.d a0_0 a0_1 a0_2 a0_3 l0_4 l0_5 a1).bind fun t375 => (some (t375.length : Int))) := by
  refine IsLim.unique (spec_l07Has.lim _ _ _ _ _ _ _) ?_
  unfold spec_l07Has.f
  repeat' (first | exact IsLim.const _ | refine IsLim.ite ?_ ?_ | refine IsLim.bind ?_ (fun _ => ?_) | exact spec_l07Into.lim ..)
end Go.Proofs.Ytbalkaphibnpcaa.P
end
section
namespace Go.Proofs.Ytbalkaphibnpcaa.P
open Go.RowKit Go.Proofs.YtbalkaphibnpcaaW.PrintWords Go.Proofs.YtbalkaphibnpcaaW.PrintLast Go.Proofs.YtbalkaphibnpcaaW.PrintMore
set_option linter.unusedVariables false
set_option linter.unusedSimpArgs false
noncomputable def spec_l07Ok.j0d (x47 : Bool) (x41000 : Int) (x41001 : Int) (x41002 : Int) (x41003 : Int) (x41004 : List (List Int)) (x41005 : List (List Int)) : Option (Bool) := lim (fun k => spec_l07Ok.j0 k x47 x41000 x41001 x41002 x41003 x41004 x41005)
theorem spec_l07Ok.j0lim (x47 : Bool) (x41000 : Int) (x41001 : Int) (x41002 : Int) (x41003 : Int) (x41004 : List (List Int)) (x41005 : List (List Int)) : IsLim (fun k => spec_l07Ok.j0 k x47 x41000 x41001 x41002 x41003 x41004 x41005) (spec_l07Ok.j0d x47 x41000 x41001 x41002 x41003 x41004 x41005) := lim_spec (fun k => (spec_l07Ok.mono_l k).1 x47 x41000 x41001 x41002 x41003 x41004 x41005)
noncomputable def spec_l07Ok.l0d (x3 : Int) (x41000 : Int) (x41001 : Int) (x41002 : Int) (x41003 : Int) (x41004 : List (List Int)) (x41005 : List (List Int)) : Option (Bool) := lim (fun k => spec_l07Ok.l0 k x3 x41000 x41001 x41002 x41003 x41004 x41005)
theorem spec_l07Ok.l0lim (x3 : Int) (x41000 : Int) (x41001 : Int) (x41002 : Int) (x41003 : Int) (x41004 : List (List Int)) (x41005 : List (List Int)) : IsLim (fun k => spec_l07Ok.l0 k x3 x41000 x41001 x41002 x41003 x41004 x41005) (spec_l07Ok.l0d x3 x41000 x41001 x41002 x41003 x41004 x41005) := lim_spec (fun k => (spec_l07Ok.mono_l k).2.1 x3 x41000 x41001 x41002 x41003 x41004 x41005)
noncomputable def spec_l07Ok.l1d (x4 : Int) (x41000 : Int) (x41001 : Int) (x41002 : Int) (x41003 : Int) (x41004 : List (List Int)) (x41005 : List (List Int)) : Option (Bool) := lim (fun k => spec_l07Ok.l1 k x4 x41000 x41001 x41002 x41003 x41004 x41005)
theorem spec_l07Ok.l1lim (x4 : Int) (x41000 : Int) (x41001 : Int) (x41002 : Int) (x41003 : Int) (x41004 : List (List Int)) (x41005 : List (List Int)) : IsLim (fun k => spec_l07Ok.l1 k x4 x41000 x41001 x41002 x41003 x41004 x41005) (spec_l07Ok.l1d x4 x41000 x41001 x41002 x41003 x41004 x41005) := lim_spec (fun k => (spec_l07Ok.mono_l k).2.2 x4 x41000 x41001 x41002 x41003 x41004 x41005)
theorem spec_l07Ok.j0d_eq (x47 : Bool) (x41000 : Int) (x41001 : Int) (x41002 : Int) (x41003 : Int) (x41004 : List (List Int)) (x41005 : List (List Int)) : spec_l07Ok.j0d x47 x41000 x41001 x41002 x41003 x41004 x41005 = if x47 = true then (some false) else (spec_l07Ok.l0d 0 x41000 x41001 x41002 x41003 x41004 x41005) := by
  refine IsLim.unique (spec_l07Ok.j0lim _ _ _ _ _ _ _) ?_
  refine IsLim.shift (by rfl) ?_
  simp only [spec_l07Ok.j0]
  repeat' (first | exact IsLim.const _ | refine IsLim.ite ?_ ?_ | refine IsLim.bind ?_ (fun _ => ?_) | exact spec_l07Ok.l0lim ..)
theorem spec_l07Ok.l0d_eq (x3 : Int) (x41000 : Int) (x41001 : Int) (x41002 : Int) (x41003 : Int) (x41004 : List (List Int)) (x41005 : List (List Int)) : spec_l07Ok.l0d x3 x41000 x41001 x41002 x41003 x41004 x41005 = if x3 < (x41004.length : Int) then (if 0 ≤ x3 then (if ((rd_L1 x41004 x3).length : Int) = 2 then ((spec_l00Rises.d (rd_L1 x41004 x3) 0 (wrap64 (x41002 - 1))).bind fun t383 => (if t383 = true then (if x3 > 0 then (if 0 ≤ (wrap64 (x3 - 1)) then (if (wrap64 (x3 - 1)) < (x41004.length : Int) then (if 0 < ((rd_L1 x41004 (wrap64 (x3 - 1))).length : Int) then (if 0 < ((rd_L1 x41004 x3).length : Int) then (if (rd (rd_L1 x41004 (wrap64 (x3 - 1))) 0) > (rd (rd_L1 x41004 x3) 0) then (some false) else (spec_l07Ok.l0d (wrap64 (x3 + 1)) x41000 x41001 x41002 x41003 x41004 x41005)) else (none)) else (none)) else (none)) else (none)) else (spec_l07Ok.l0d (wrap64 (x3 + 1)) x41000 x41001 x41002 x41003 x41004 x41005)) else (some false))) else (some false)) else (none)) else (spec_l07Ok.l1d 0 x41000 x41001 x41002 x41003 x41004 x41005) := by
  refine IsLim.unique (spec_l07Ok.l0lim _ _ _ _ _ _ _) ?_
  refine IsLim.shift (by rfl) ?_
  simp only [spec_l07Ok.l0]
  repeat' (first | exact IsLim.const _ | refine IsLim.ite ?_ ?_ | refine IsLim.bind ?_ (fun _ => ?_) | exact spec_l00Rises.lim .. | exact spec_l07Ok.l0lim .. | exact spec_l07Ok.l1lim ..)
theorem spec_l07Ok.l1d_eq (x4 : Int) (x41000 : Int) (x41001 : Int) (x41002 : Int) (x41003 : Int) (x41004 : List (List Int)) (x41005 : List (List Int)) : spec_l07Ok.l1d x4 x41000 x41001 x41002 x41003 x41004 x41005 = if x4 < (x41005.length : Int) then (if 0 ≤ x4 then (if x4 < (x41004.length : Int) then (if 0 < ((rd_L1 x41004 x4).length : Int) then ((spec_l07Has.d x41000 x41001 x41002 x41003 x41004 x41005 (rd (rd_L1 x41004 x4) 0)).bind fun t391 => (if ((rd_L1 x41005 x4).length : Int) = t391 then ((spec_l04Elements.d x41000 x41001 (rd_L1 x41005 x4)).bind fun t393 => (if t393 = true then (spec_l07Ok.l1d (wrap64 (x4 + 1)) x41000 x41001 x41002 x41003 x41004 x41005) else (some false))) else (some false))) else (none)) else (none)) else (none)) else (some true) := by
  refine IsLim.unique (spec_l07Ok.l1lim _ _ _ _ _ _ _) ?_
  refine IsLim.shift (by rfl) ?_
  simp only [spec_l07Ok.l1]
  repeat' (first | exact IsLim.const _ | refine IsLim.ite ?_ ?_ | refine IsLim.bind ?_ (fun _ => ?_) | exact spec_l07Has.lim .. | exact spec_l04Elements.lim .. | exact spec_l07Ok.l1lim ..)
noncomputable def spec_l07Ok.d (a0_0 : Int) (a0_1 : Int) (a0_2 : Int) (a0_3 : Int) (l0_4 : List (List Int)) (l0_5 : List (List Int)) : Option (Bool) := lim (fun k => spec_l07Ok.f k a0_0 a0_1 a0_2 a0_3 l0_4 l0_5)
theorem spec_l07Ok.lim (a0_0 : Int) (a0_1 : Int) (a0_2 : Int) (a0_3 : Int) (l0_4 : List (List Int)) (l0_5 : List (List Int)) : IsLim (fun k => spec_l07Ok.f k a0_0 a0_1 a0_2 a0_3 l0_4 l0_5) (spec_l07Ok.d a0_0 a0_1 a0_2 a0_3 l0_4 l0_5) := lim_spec (fun k => spec_l07Ok.mono a0_0 a0_1 a0_2 a0_3 l0_4 l0_5 k)
theorem spec_l07Ok.d_eq (a0_0 : Int) (a0_1 : Int) (a0_2 : Int) (a0_3 : Int) (l0_4 : List (List Int)) (l0_5 : List (List Int)) : spec_l07Ok.d a0_0 a0_1 a0_2 a0_3 l0_4 l0_5 = (spec_l01Ok.d a0_0 a0_1).bind fun t378 => (if t378 = true then ((spec_l00In.f a0_2 2 8).bind fun t379 => (if t379 = true then ((spec_l00In.f a0_3 1 3).bind fun t380 => (if t380 = true then (if (l0_4.length : Int) > 14 then (spec_l07Ok.j0d true a0_0 a0_1 a0_2 a0_3 l0_4 l0_5) else (spec_l07Ok.j0d ((l0_5.length : Int) != (l0_4.length : Int)) a0_0 a0_1 a0_2 a0_3 l0_4 l0_5)) else (spec_l07Ok.j0d true a0_0 a0_1 a0_2 a0_3 l0_4 l0_5))) else (spec_l07Ok.j0d true a0_0 a0_1 a0_2 a0_3 l0_4 l0_5))) else (spec_l07Ok.j0d true a0_0 a0_1 a0_2 a0_3 l0_4 l0_5)) := by
  refine IsLim.unique (spec_l07Ok.lim _ _ _ _ _ _) ?_
  unfold spec_l07Ok.f
  repeat' (first | exact IsLim.const _ | refine IsLim.ite ?_ ?_ | refine IsLim.bind ?_ (fun _ => ?_) | exact spec_l01Ok.lim .. | exact spec_l07Ok.j0lim ..)
end Go.Proofs.Ytbalkaphibnpcaa.P
end
section
namespace Go.Proofs.Ytbalkaphibnpcaa.P
open Go.RowKit Go.Proofs.YtbalkaphibnpcaaW.PrintWords Go.Proofs.YtbalkaphibnpcaaW.PrintLast Go.Proofs.YtbalkaphibnpcaaW.PrintMore
set_option linter.unusedVariables false
set_option linter.unusedSimpArgs false
noncomputable def spec_l07Node.d (a0_0 : Int) (a0_1 : Int) (a0_2 : Int) (a0_3 : Int) (l0_4 : List (List Int)) (l0_5 : List (List Int)) (a1 : Int) (a2 : Int) : Option (Int) := lim (fun k => spec_l07Node.f k a0_0 a0_1 a0_2 a0_3 l0_4 l0_5 a1 a2)
theorem spec_l07Node.lim (a0_0 : Int) (a0_1 : Int) (a0_2 : Int) (a0_3 : Int) (l0_4 : List (List Int)) (l0_5 : List (List Int)) (a1 : Int) (a2 : Int) : IsLim (fun k => spec_l07Node.f k a0_0 a0_1 a0_2 a0_3 l0_4 l0_5 a1 a2) (spec_l07Node.d a0_0 a0_1 a0_2 a0_3 l0_4 l0_5 a1 a2) := lim_spec (fun k => spec_l07Node.mono a0_0 a0_1 a0_2 a0_3 l0_4 l0_5 a1 a2 k)
theorem spec_l07Node.d_eq (a0_0 : Int) (a0_1 : Int) (a0_2 : Int) (a0_3 : Int) (l0_4 : List (List Int)) (l0_5 : List (List Int)) (a1 : Int) (a2 : Int) : spec_l07Node.d a0_0 a0_1 a0_2 a0_3 l0_4 l0_5 a1 a2 = (spec_l07Ok.d a0_0 a0_1 a0_2 a0_3 l0_4 l0_5).bind fun t394 => (if t394 = true then ((spec_l00In.f a1 a2 (wrap64 (a0_2 - 1))).bind fun t395 => (if t395 = true then (some 0) else (some 2))) else (some 1)) := by
  refine IsLim.unique (spec_l07Node.lim _ _ _ _ _ _ _ _) ?_
  unfold spec_l07Node.f
  repeat' (first | exact IsLim.const _ | refine IsLim.ite ?_ ?_ | refine IsLim.bind ?_ (fun _ => ?_) | exact spec_l07Ok.lim ..)
noncomputable def spec_EdgesInto.d (a0_0 : Int) (a0_1 : Int) (a0_2 : Int) (a0_3 : Int) (l0_4 : List (List Int)) (l0_5 : List (List Int)) (a1 : Int) : Option (List Int × Int) := lim (fun k => spec_EdgesInto.f k a0_0 a0_1 a0_2 a0_3 l0_4 l0_5 a1)
theorem spec_EdgesInto.lim (a0_0 : Int) (a0_1 : Int) (a0_2 : Int) (a0_3 : Int) (l0_4 : List (List Int)) (l0_5 : List (List Int)) (a1 : Int) : IsLim (fun k => spec_EdgesInto.f k a0_0 a0_1 a0_2 a0_3 l0_4 l0_5 a1) (spec_EdgesInto.d a0_0 a0_1 a0_2 a0_3 l0_4 l0_5 a1) := lim_spec (fun k => spec_EdgesInto.mono a0_0 a0_1 a0_2 a0_3 l0_4 l0_5 a1 k)
theorem spec_EdgesInto.d_eq (a0_0 : Int) (a0_1 : Int) (a0_2 : Int) (a0_3 : Int) (l0_4 : List (List Int)) (l0_5 : List (List Int)) (a1 : Int) : spec_EdgesInto.d a0_0 a0_1 a0_2 a0_3 l0_4 l0_5 a1 = (spec_l07Node.d a0_0 a0_1 a0_2 a0_3 l0_4 l0_5 a1 0).bind fun t397 => (if t397 = 0 then ((spec_l07Into.d a0_0 a0_1 a0_2 a0_3 l0_4 l0_5 a1).bind fun t398 => (some (t398, 0))) else (some ((([] : List Int)), t397))) := by
  refine IsLim.unique (spec_EdgesInto.lim _ _ _ _ _ _ _) ?_
  unfold spec_EdgesInto.f
  repeat' (first | exact IsLim.const _ | refine IsLim.ite ?_ ?_ | refine IsLim.bind ?_ (fun _ => ?_) | exact spec_l07Node.lim .. | exact spec_l07Into.lim ..)
noncomputable def laws_toNet.d (a0_0 : Int) (a0_1 : Int) (a0_2 : Int) (a0_3 : Int) (l0_4 : List (List Int)) (l0_5 : List (List Int)) : Option (Int × Int × Int × Int × (List (List Int)) × (List (List Int))) := lim (fun k => laws_toNet.f k a0_0 a0_1 a0_2 a0_3 l0_4 l0_5)
theorem laws_toNet.lim (a0_0 : Int) (a0_1 : Int) (a0_2 : Int) (a0_3 : Int) (l0_4 : List (List Int)) (l0_5 : List (List Int)) : IsLim (fun k => laws_toNet.f k a0_0 a0_1 a0_2 a0_3 l0_4 l0_5) (laws_toNet.d a0_0 a0_1 a0_2 a0_3 l0_4 l0_5) := lim_spec (fun k => laws_toNet.mono a0_0 a0_1 a0_2 a0_3 l0_4 l0_5 k)
theorem laws_toNet.d_eq (a0_0 : Int) (a0_1 : Int) (a0_2 : Int) (a0_3 : Int) (l0_4 : List (List Int)) (l0_5 : List (List Int)) : laws_toNet.d a0_0 a0_1 a0_2 a0_3 l0_4 l0_5 = (laws_toField.f a0_0 a0_1).bind fun bt407 => ((laws_toInt64SS.d l0_4).bind fun t409 => ((laws_toInt64SS.d l0_5).bind fun t412 => (some (bt407.1, bt407.2, a0_2, a0_3, t409, t412)))) := by
  refine IsLim.unique (laws_toNet.lim _ _ _ _ _ _) ?_
  unfold laws_toNet.f
  repeat' (first | exact IsLim.const _ | refine IsLim.ite ?_ ?_ | refine IsLim.bind ?_ (fun _ => ?_) | exact laws_toInt64SS.lim ..)
end Go.Proofs.Ytbalkaphibnpcaa.P
end
section
namespace Go.Proofs.Ytbalkaphibnpcaa.P
open Go.RowKit Go.Proofs.YtbalkaphibnpcaaW.PrintWords Go.Proofs.YtbalkaphibnpcaaW.PrintLast Go.Proofs.YtbalkaphibnpcaaW.PrintMore
set_option linter.unusedVariables false
set_option linter.unusedSimpArgs false
end Go.Proofs.Ytbalkaphibnpcaa.P
end
section
namespace Go.Proofs.Ytbalkaphibnpcaa.P
open Go.RowKit Go.Proofs.YtbalkaphibnpcaaW.PrintWords Go.Proofs.YtbalkaphibnpcaaW.PrintLast Go.Proofs.YtbalkaphibnpcaaW.PrintMore
set_option linter.unusedVariables false
set_option linter.unusedSimpArgs false
noncomputable def impl_Net_into.l0d (x1 : Int) (x5 : List Int) (x10 : List (List Int)) (x11 : Int) (x12 : Int) : Option (List Int) := lim (fun k => impl_Net_into.l0 k x1 x5 x10 x11 x12)
theorem impl_Net_into.l0lim (x1 : Int) (x5 : List Int) (x10 : List (List Int)) (x11 : Int) (x12 : Int) : IsLim (fun k => impl_Net_into.l0 k x1 x5 x10 x11 x12) (impl_Net_into.l0d x1 x5 x10 x11 x12) := lim_spec (fun k => (impl_Net_into.mono_l k) x1 x5 x10 x11 x12)
theorem impl_Net_into.l0d_eq (x1 : Int) (x5 : List Int) (x10 : List (List Int)) (x11 : Int) (x12 : Int) : impl_Net_into.l0d x1 x5 x10 x11 x12 = if x12 < x11 then (if 0 ≤ x12 then (if x12 < (x10.length : Int) then (if 1 < ((rd_L1 x10 x12).length : Int) then (if (rd (rd_L1 x10 x12) 1) = x1 then (if x5.length < 17592186044416 then (impl_Net_into.l0d x1 (x5 ++ [x12]) x10 x11 (wrap64 (x12 + 1))) else (none)) else (impl_Net_into.l0d x1 x5 x10 x11 (wrap64 (x12 + 1)))) else (none)) else (none)) else (none)) else (some x5) := by
  refine IsLim.unique (impl_Net_into.l0lim _ _ _ _ _) ?_
  refine IsLim.shift (by rfl) ?_
  simp only [impl_Net_into.l0]
  repeat' (first | exact IsLim.const _ | refine IsLim.ite ?_ ?_ | refine IsLim.bind ?_ (fun _ => ?_) | exact impl_Net_into.l0lim ..)
noncomputable def impl_Net_into.d (a0_0 : Int) (a0_1 : Int) (a0_2 : Int) (a0_3 : Int) (l0_4 : List (List Int)) (l0_5 : List (List Int)) (a1 : Int) : Option (List Int) := lim (fun k => impl_Net_into.f k a0_0 a0_1 a0_2 a0_3 l0_4 l0_5 a1)
theorem impl_Net_into.lim (a0_0 : Int) (a0_1 : Int) (a0_2 : Int) (a0_3 : Int) (l0_4 : List (List Int)) (l0_5 : List (List Int)) (a1 : Int) : IsLim (fun k => impl_Net_into.f k a0_0 a0_1 a0_2 a0_3 l0_4 l0_5 a1) (impl_Net_into.d a0_0 a0_1 a0_2 a0_3 l0_4 l0_5 a1) := lim_spec (fun k => impl_Net_into.mono a0_0 a0_1 a0_2 a0_3 l0_4 l0_5 a1 k)
theorem impl_Net_into.d_eq (a0_0 : Int) (a0_1 : Int) (a0_2 : Int) (a0_3 : Int) (l0_4 : List (List Int)) (l0_5 : List (List Int)) (a1 : Int) : impl_Net_into.d a0_0 a0_1 a0_2 a0_3 l0_4 l0_5 a1 = impl_Net_into.l0d a1 (([] : List Int)) l0_4 (l0_4.length : Int) 0 := by
  refine IsLim.unique (impl_Net_into.lim _ _ _ _ _ _ _) ?_
  unfold impl_Net_into.f
  repeat' (first | exact IsLim.const _ | refine IsLim.ite ?_ ?_ | refine IsLim.bind ?_ (fun _ => ?_) | exact impl_Net_into.l0lim ..)
noncomputable def impl_Net_has.d (a0_0 : Int) (a0_1 : Int) (a0_2 : Int) (a0_3 : Int) (l0_4 : List (List Int)) (l0_5 : List (List Int)) (a1 : Int) : Option (Int) := lim (fun k => impl_Net_has.f k a0_0 a0_1 a0_2 a0_3 l0_4 l0_5 a1)
theorem impl_Net_has.lim (a0_0 : Int) (a0_1 : Int) (a0_2 : Int) (a0_3 : Int) (l0_4 : List (List Int)) (l0_5 : List (List Int)) (a1 : Int) : IsLim (fun k => impl_Net_has.f k a0_0 a0_1 a0_2 a0_3 l0_4 l0_5 a1) (impl_Net_has.d a0_0 a0_1 a0_2 a0_3 l0_4 l0_5 a1) := lim_spec (fun k => impl_Net_has.mono a0_0 a0_1 a0_2 a0_3 l0_4 l0_5 a1 k)
theorem impl_Net_has.d_eq (a0_0 : Int) (a0_1 : Int) (a0_2 : Int) (a0_3 : Int) (l0_4 : List (List Int)) (l0_5 : List (List Int)) (a1 : Int) : impl_Net_has.d a0_0 a0_1 a0_2 a0_3 l0_4 l0_5 a1 = if a1 = 0 then (some a0_3) else ((impl_Net_into.d a0_0 a0_1 a0_2 a0_3 l0_4 l0_5 a1).bind fun t427 => ((impl_size_int64_71.f t427).bind fun t430 => (some t430))) := by
  refine IsLim.unique (impl_Net_has.lim _ _ _ _ _ _ _) ?_
  unfold impl_Net_has.f
  repeat' (first | exact IsLim.const _ | refine IsLim.ite ?_ ?_ | refine IsLim.bind ?_ (fun _ => ?_) | exact impl_Net_into.lim ..)
end Go.Proofs.Ytbalkaphibnpcaa.P
end
section
namespace Go.Proofs.Ytbalkaphibnpcaa.P
open Go.RowKit Go.Proofs.YtbalkaphibnpcaaW.PrintWords Go.Proofs.YtbalkaphibnpcaaW.PrintLast Go.Proofs.YtbalkaphibnpcaaW.PrintMore
set_option linter.unusedVariables false
set_option linter.unusedSimpArgs false
noncomputable def impl_IsIrreducible.j0d (x0 : Int) (x9 : Bool) : Option (Bool) := lim (fun k => impl_IsIrreducible.j0 k x0 x9)
theorem impl_IsIrreducible.j0lim (x0 : Int) (x9 : Bool) : IsLim (fun k => impl_IsIrreducible.j0 k x0 x9) (impl_IsIrreducible.j0d x0 x9) := lim_spec (fun k => (impl_IsIrreducible.mono_l k).1 x0 x9)
noncomputable def impl_IsIrreducible.l0d (x0 : Int) (x3 : Int) : Option (Bool) := lim (fun k => impl_IsIrreducible.l0 k x0 x3)
theorem impl_IsIrreducible.l0lim (x0 : Int) (x3 : Int) : IsLim (fun k => impl_IsIrreducible.l0 k x0 x3) (impl_IsIrreducible.l0d x0 x3) := lim_spec (fun k => (impl_IsIrreducible.mono_l k).2 x0 x3)
theorem impl_IsIrreducible.j0d_eq (x0 : Int) (x9 : Bool) : impl_IsIrreducible.j0d x0 x9 = if x9 = true then (some false) else (impl_IsIrreducible.l0d x0 2) := by
  refine IsLim.unique (impl_IsIrreducible.j0lim _ _) ?_
  refine IsLim.shift (by rfl) ?_
  simp only [impl_IsIrreducible.j0]
  repeat' (first | exact IsLim.const _ | refine IsLim.ite ?_ ?_ | refine IsLim.bind ?_ (fun _ => ?_) | exact impl_IsIrreducible.l0lim ..)
noncomputable def impl_IsIrreducible.d (a0 : Int) : Option (Bool) := lim (fun k => impl_IsIrreducible.f k a0)
theorem impl_IsIrreducible.lim (a0 : Int) : IsLim (fun k => impl_IsIrreducible.f k a0) (impl_IsIrreducible.d a0) := lim_spec (fun k => impl_IsIrreducible.mono a0 k)
theorem impl_IsIrreducible.d_eq (a0 : Int) : impl_IsIrreducible.d a0 = if a0 < 2 then (impl_IsIrreducible.j0d a0 true) else (impl_IsIrreducible.j0d a0 (decide (a0 ≥ 64))) := by
  refine IsLim.unique (impl_IsIrreducible.lim _) ?_
  unfold impl_IsIrreducible.f
  repeat' (first | exact IsLim.const _ | refine IsLim.ite ?_ ?_ | refine IsLim.bind ?_ (fun _ => ?_) | exact impl_IsIrreducible.j0lim ..)
noncomputable def impl_ValidField.d (a0_0 : Int) (a0_1 : Int) : Option (Bool) := lim (fun k => impl_ValidField.f k a0_0 a0_1)
theorem impl_ValidField.lim (a0_0 : Int) (a0_1 : Int) : IsLim (fun k => impl_ValidField.f k a0_0 a0_1) (impl_ValidField.d a0_0 a0_1) := lim_spec (fun k => impl_ValidField.mono a0_0 a0_1 k)
theorem impl_ValidField.d_eq (a0_0 : Int) (a0_1 : Int) : impl_ValidField.d a0_0 a0_1 = (impl_within.f a0_0 1 5).bind fun t214 => (if t214 = true then ((impl_IsIrreducible.d a0_1).bind fun t215 => (if t215 = true then ((impl_degreeOf.d a0_1).bind fun t216 => (some (t216 == a0_0))) else (some false))) else (some false)) := by
  refine IsLim.unique (impl_ValidField.lim _ _) ?_
  unfold impl_ValidField.f
  repeat' (first | exact IsLim.const _ | refine IsLim.ite ?_ ?_ | refine IsLim.bind ?_ (fun _ => ?_) | exact impl_IsIrreducible.lim .. | exact impl_degreeOf.lim ..)
noncomputable def slices_IndexFunc_int64_int64_AT_impl_Field_has_1.l0d (x0 : List Int) (x7 : Int) (x8 : Int) (x49000 : Int) (x49001 : Int) : Option (Int) := lim (fun k => slices_IndexFunc_int64_int64_AT_impl_Field_has_1.l0 k x0 x7 x8 x49000 x49001)
theorem slices_IndexFunc_int64_int64_AT_impl_Field_has_1.l0lim (x0 : List Int) (x7 : Int) (x8 : Int) (x49000 : Int) (x49001 : Int) : IsLim (fun k => slices_IndexFunc_int64_int64_AT_impl_Field_has_1.l0 k x0 x7 x8 x49000 x49001) (slices_IndexFunc_int64_int64_AT_impl_Field_has_1.l0d x0 x7 x8 x49000 x49001) := lim_spec (fun k => (slices_IndexFunc_int64_int64_AT_impl_Field_has_1.mono_l k) x0 x7 x8 x49000 x49001)
theorem slices_IndexFunc_int64_int64_AT_impl_Field_has_1.l0d_eq (x0 : List Int) (x7 : Int) (x8 : Int) (x49000 : Int) (x49001 : Int) : slices_IndexFunc_int64_int64_AT_impl_Field_has_1.l0d x0 x7 x8 x49000 x49001 = if x8 < x7 then (if 0 ≤ x8 then (if x8 < (x0.length : Int) then ((impl_Field_has_1.f (rd x0 x8) x49000 x49001).bind fun t221 => (if t221 = true then (some x8) else (slices_IndexFunc_int64_int64_AT_impl_Field_has_1.l0d x0 x7 (wrap64 (x8 + 1)) x49000 x49001))) else (none)) else (none)) else (some (-1)) := by
  refine IsLim.unique (slices_IndexFunc_int64_int64_AT_impl_Field_has_1.l0lim _ _ _ _ _) ?_
  refine IsLim.shift (by rfl) ?_
  simp only [slices_IndexFunc_int64_int64_AT_impl_Field_has_1.l0]
  repeat' (first | exact IsLim.const _ | refine IsLim.ite ?_ ?_ | refine IsLim.bind ?_ (fun _ => ?_) | exact slices_IndexFunc_int64_int64_AT_impl_Field_has_1.l0lim ..)
noncomputable def slices_IndexFunc_int64_int64_AT_impl_Field_has_1.d (l0 : List Int) (a1_0 : Int) (a1_1 : Int) : Option (Int) := lim (fun k => slices_IndexFunc_int64_int64_AT_impl_Field_has_1.f k l0 a1_0 a1_1)
theorem slices_IndexFunc_int64_int64_AT_impl_Field_has_1.lim (l0 : List Int) (a1_0 : Int) (a1_1 : Int) : IsLim (fun k => slices_IndexFunc_int64_int64_AT_impl_Field_has_1.f k l0 a1_0 a1_1) (slices_IndexFunc_int64_int64_AT_impl_Field_has_1.d l0 a1_0 a1_1) := lim_spec (fun k => slices_IndexFunc_int64_int64_AT_impl_Field_has_1.mono l0 a1_0 a1_1 k)
theorem slices_IndexFunc_int64_int64_AT_impl_Field_has_1.d_eq (l0 : List Int) (a1_0 : Int) (a1_1 : Int) : slices_IndexFunc_int64_int64_AT_impl_Field_has_1.d l0 a1_0 a1_1 = slices_IndexFunc_int64_int64_AT_impl_Field_has_1.l0d l0 (l0.length : Int) 0 a1_0 a1_1 := by
  refine IsLim.unique (slices_IndexFunc_int64_int64_AT_impl_Field_has_1.lim _ _ _) ?_
  unfold slices_IndexFunc_int64_int64_AT_impl_Field_has_1.f
  repeat' (first | exact IsLim.const _ | refine IsLim.ite ?_ ?_ | refine IsLim.bind ?_ (fun _ => ?_) | exact slices_IndexFunc_int64_int64_AT_impl_Field_has_1.l0lim ..)
noncomputable def slices_ContainsFunc_int64_int64_AT_impl_Field_has_1.d (l0 : List Int) (a1_0 : Int) (a1_1 : Int) : Option (Bool) := lim (fun k => slices_ContainsFunc_int64_int64_AT_impl_Field_has_1.f k l0 a1_0 a1_1)
theorem slices_ContainsFunc_int64_int64_AT_impl_Field_has_1.lim (l0 : List Int) (a1_0 : Int) (a1_1 : Int) : IsLim (fun k => slices_ContainsFunc_int64_int64_AT_impl_Field_has_1.f k l0 a1_0 a1_1) (slices_ContainsFunc_int64_int64_AT_impl_Field_has_1.d l0 a1_0 a1_1) := lim_spec (fun k => slices_ContainsFunc_int64_int64_AT_impl_Field_has_1.mono l0 a1_0 a1_1 k)
theorem slices_ContainsFunc_int64_int64_AT_impl_Field_has_1.d_eq (l0 : List Int) (a1_0 : Int) (a1_1 : Int) : slices_ContainsFunc_int64_int64_AT_impl_Field_has_1.d l0 a1_0 a1_1 = (slices_IndexFunc_int64_int64_AT_impl_Field_has_1.d l0 a1_0 a1_1).bind fun t222 => (some (decide (t222 ≥ 0))) := by
  refine IsLim.unique (slices_ContainsFunc_int64_int64_AT_impl_Field_has_1.lim _ _ _) ?_
  unfold slices_ContainsFunc_int64_int64_AT_impl_Field_has_1.f
  repeat' (first | exact IsLim.const _ | refine IsLim.ite ?_ ?_ | refine IsLim.bind ?_ (fun _ => ?_) | exact slices_IndexFunc_int64_int64_AT_impl_Field_has_1.lim ..)
noncomputable def impl_Field_has.d (a0_0 : Int) (a0_1 : Int) (l1 : List Int) : Option (Bool) := lim (fun k => impl_Field_has.f k a0_0 a0_1 l1)
theorem impl_Field_has.lim (a0_0 : Int) (a0_1 : Int) (l1 : List Int) : IsLim (fun k => impl_Field_has.f k a0_0 a0_1 l1) (impl_Field_has.d a0_0 a0_1 l1) := lim_spec (fun k => impl_Field_has.mono a0_0 a0_1 l1 k)
theorem impl_Field_has.d_eq (a0_0 : Int) (a0_1 : Int) (l1 : List Int) : impl_Field_has.d a0_0 a0_1 l1 = (slices_ContainsFunc_int64_int64_AT_impl_Field_has_1.d l1 a0_0 a0_1).bind fun t224 => (some (!t224)) := by
  refine IsLim.unique (impl_Field_has.lim _ _ _) ?_
  unfold impl_Field_has.f
  repeat' (first | exact IsLim.const _ | refine IsLim.ite ?_ ?_ | refine IsLim.bind ?_ (fun _ => ?_) | exact slices_ContainsFunc_int64_int64_AT_impl_Field_has_1.lim ..)
end Go.Proofs.Ytbalkaphibnpcaa.P
end
section
namespace Go.Proofs.Ytbalkaphibnpcaa.P
open Go.RowKit Go.Proofs.YtbalkaphibnpcaaW.PrintWords Go.Proofs.YtbalkaphibnpcaaW.PrintLast Go.Proofs.YtbalkaphibnpcaaW.PrintMore
set_option linter.unusedVariables false
set_option linter.unusedSimpArgs false
noncomputable def impl_ValidNet.j0d (x37 : Bool) (x432000 : Int) (x432001 : Int) (x432002 : Int) (x432003 : Int) (x432004 : List (List Int)) (x432005 : List (List Int)) : Option (Bool) := lim (fun k => impl_ValidNet.j0 k x37 x432000 x432001 x432002 x432003 x432004 x432005)
theorem impl_ValidNet.j0lim (x37 : Bool) (x432000 : Int) (x432001 : Int) (x432002 : Int) (x432003 : Int) (x432004 : List (List Int)) (x432005 : List (List Int)) : IsLim (fun k => impl_ValidNet.j0 k x37 x432000 x432001 x432002 x432003 x432004 x432005) (impl_ValidNet.j0d x37 x432000 x432001 x432002 x432003 x432004 x432005) := lim_spec (fun k => (impl_ValidNet.mono_l k).1 x37 x432000 x432001 x432002 x432003 x432004 x432005)
noncomputable def impl_ValidNet.l0d (x39 : List (List Int)) (x40 : Int) (x41 : Int) (x432000 : Int) (x432001 : Int) (x432002 : Int) (x432003 : Int) (x432004 : List (List Int)) (x432005 : List (List Int)) : Option (Bool) := lim (fun k => impl_ValidNet.l0 k x39 x40 x41 x432000 x432001 x432002 x432003 x432004 x432005)
theorem impl_ValidNet.l0lim (x39 : List (List Int)) (x40 : Int) (x41 : Int) (x432000 : Int) (x432001 : Int) (x432002 : Int) (x432003 : Int) (x432004 : List (List Int)) (x432005 : List (List Int)) : IsLim (fun k => impl_ValidNet.l0 k x39 x40 x41 x432000 x432001 x432002 x432003 x432004 x432005) (impl_ValidNet.l0d x39 x40 x41 x432000 x432001 x432002 x432003 x432004 x432005) := lim_spec (fun k => (impl_ValidNet.mono_l k).2.1 x39 x40 x41 x432000 x432001 x432002 x432003 x432004 x432005)
noncomputable def impl_ValidNet.l1d (x94 : List (List Int)) (x95 : Int) (x96 : Int) (x432000 : Int) (x432001 : Int) (x432002 : Int) (x432003 : Int) (x432004 : List (List Int)) (x432005 : List (List Int)) : Option (Bool) := lim (fun k => impl_ValidNet.l1 k x94 x95 x96 x432000 x432001 x432002 x432003 x432004 x432005)
theorem impl_ValidNet.l1lim (x94 : List (List Int)) (x95 : Int) (x96 : Int) (x432000 : Int) (x432001 : Int) (x432002 : Int) (x432003 : Int) (x432004 : List (List Int)) (x432005 : List (List Int)) : IsLim (fun k => impl_ValidNet.l1 k x94 x95 x96 x432000 x432001 x432002 x432003 x432004 x432005) (impl_ValidNet.l1d x94 x95 x96 x432000 x432001 x432002 x432003 x432004 x432005) := lim_spec (fun k => (impl_ValidNet.mono_l k).2.2 x94 x95 x96 x432000 x432001 x432002 x432003 x432004 x432005)
theorem impl_ValidNet.j0d_eq (x37 : Bool) (x432000 : Int) (x432001 : Int) (x432002 : Int) (x432003 : Int) (x432004 : List (List Int)) (x432005 : List (List Int)) : impl_ValidNet.j0d x37 x432000 x432001 x432002 x432003 x432004 x432005 = if x37 = true then (some false) else (impl_ValidNet.l0d x432004 (x432004.length : Int) 0 x432000 x432001 x432002 x432003 x432004 x432005) := by
  refine IsLim.unique (impl_ValidNet.j0lim _ _ _ _ _ _ _) ?_
  refine IsLim.shift (by rfl) ?_
  simp only [impl_ValidNet.j0]
  repeat' (first | exact IsLim.const _ | refine IsLim.ite ?_ ?_ | refine IsLim.bind ?_ (fun _ => ?_) | exact impl_ValidNet.l0lim ..)
theorem impl_ValidNet.l0d_eq (x39 : List (List Int)) (x40 : Int) (x41 : Int) (x432000 : Int) (x432001 : Int) (x432002 : Int) (x432003 : Int) (x432004 : List (List Int)) (x432005 : List (List Int)) : impl_ValidNet.l0d x39 x40 x41 x432000 x432001 x432002 x432003 x432004 x432005 = if x41 < x40 then (if 0 ≤ x41 then (if x41 < (x39.length : Int) then (if ((rd_L1 x39 x41).length : Int) = 2 then (if 0 < ((rd_L1 x39 x41).length : Int) then ((impl_Net_isNode.f x432000 x432001 x432002 x432003 x432004 x432005 (rd (rd_L1 x39 x41) 0)).bind fun t437 => (if t437 = true then (if 1 < ((rd_L1 x39 x41).length : Int) then ((impl_Net_isNode.f x432000 x432001 x432002 x432003 x432004 x432005 (rd (rd_L1 x39 x41) 1)).bind fun t439 => (if t439 = true then (if (rd (rd_L1 x39 x41) 0) ≥ (rd (rd_L1 x39 x41) 1) then (some false) else (if x41 > 0 then (if 0 ≤ (wrap64 (x41 - 1)) then (if (wrap64 (x41 - 1)) < (x432004.length : Int) then (if 0 < ((rd_L1 x432004 (wrap64 (x41 - 1))).length : Int) then (if (rd (rd_L1 x39 x41) 0) < (rd (rd_L1 x432004 (wrap64 (x41 - 1))) 0) then (some false) else (impl_ValidNet.l0d x39 x40 (wrap64 (x41 + 1)) x432000 x432001 x432002 x432003 x432004 x432005)) else (none)) else (none)) else (none)) else (impl_ValidNet.l0d x39 x40 (wrap64 (x41 + 1)) x432000 x432001 x432002 x432003 x432004 x432005))) else (some false))) else (none)) else (some false))) else (none)) else (some false)) else (none)) else (none)) else (impl_ValidNet.l1d x432005 (x432005.length : Int) 0 x432000 x432001 x432002 x432003 x432004 x432005) := by
  refine IsLim.unique (impl_ValidNet.l0lim _ _ _ _ _ _ _ _ _) ?_
  refine IsLim.shift (by rfl) ?_
  simp only [impl_ValidNet.l0]
  repeat' (first | exact IsLim.const _ | refine IsLim.ite ?_ ?_ | refine IsLim.bind ?_ (fun _ => ?_) | exact impl_ValidNet.l0lim .. | exact impl_ValidNet.l1lim ..)
theorem impl_ValidNet.l1d_eq (x94 : List (List Int)) (x95 : Int) (x96 : Int) (x432000 : Int) (x432001 : Int) (x432002 : Int) (x432003 : Int) (x432004 : List (List Int)) (x432005 : List (List Int)) : impl_ValidNet.l1d x94 x95 x96 x432000 x432001 x432002 x432003 x432004 x432005 = if x96 < x95 then (if 0 ≤ x96 then (if x96 < (x94.length : Int) then ((impl_size_int64_71.f (rd_L1 x94 x96)).bind fun t446 => (if x96 < (x432004.length : Int) then (if 0 < ((rd_L1 x432004 x96).length : Int) then ((impl_Net_has.d x432000 x432001 x432002 x432003 x432004 x432005 (rd (rd_L1 x432004 x96) 0)).bind fun t449 => (if t446 = t449 then ((impl_Field_has.d x432000 x432001 (rd_L1 x94 x96)).bind fun t450 => (if t450 = true then (impl_ValidNet.l1d x94 x95 (wrap64 (x96 + 1)) x432000 x432001 x432002 x432003 x432004 x432005) else (some false))) else (some false))) else (none)) else (none))) else (none)) else (none)) else (some true) := by
  refine IsLim.unique (impl_ValidNet.l1lim _ _ _ _ _ _ _ _ _) ?_
  refine IsLim.shift (by rfl) ?_
  simp only [impl_ValidNet.l1]
  repeat' (first | exact IsLim.const _ | refine IsLim.ite ?_ ?_ | refine IsLim.bind ?_ (fun _ => ?_) | exact impl_Net_has.lim .. | exact impl_Field_has.lim .. | exact impl_ValidNet.l1lim ..)
noncomputable def impl_ValidNet.d (a0_0 : Int) (a0_1 : Int) (a0_2 : Int) (a0_3 : Int) (l0_4 : List (List Int)) (l0_5 : List (List Int)) : Option (Bool) := lim (fun k => impl_ValidNet.f k a0_0 a0_1 a0_2 a0_3 l0_4 l0_5)
theorem impl_ValidNet.lim (a0_0 : Int) (a0_1 : Int) (a0_2 : Int) (a0_3 : Int) (l0_4 : List (List Int)) (l0_5 : List (List Int)) : IsLim (fun k => impl_ValidNet.f k a0_0 a0_1 a0_2 a0_3 l0_4 l0_5) (impl_ValidNet.d a0_0 a0_1 a0_2 a0_3 l0_4 l0_5) := lim_spec (fun k => impl_ValidNet.mono a0_0 a0_1 a0_2 a0_3 l0_4 l0_5 k)
theorem impl_ValidNet.d_eq (a0_0 : Int) (a0_1 : Int) (a0_2 : Int) (a0_3 : Int) (l0_4 : List (List Int)) (l0_5 : List (List Int)) : impl_ValidNet.d a0_0 a0_1 a0_2 a0_3 l0_4 l0_5 = (impl_ValidField.d a0_0 a0_1).bind fun t432 => (if t432 = true then ((impl_within.f a0_2 2 8).bind fun t433 => (if t433 = true then ((impl_within.f a0_3 1 3).bind fun t434 => (if t434 = true then (if (l0_4.length : Int) > 14 then (impl_ValidNet.j0d true a0_0 a0_1 a0_2 a0_3 l0_4 l0_5) else (impl_ValidNet.j0d ((l0_5.length : Int) != (l0_4.length : Int)) a0_0 a0_1 a0_2 a0_3 l0_4 l0_5)) else (impl_ValidNet.j0d true a0_0 a0_1 a0_2 a0_3 l0_4 l0_5))) else (impl_ValidNet.j0d true a0_0 a0_1 a0_2 a0_3 l0_4 l0_5))) else (impl_ValidNet.j0d true a0_0 a0_1 a0_2 a0_3 l0_4 l0_5)) := by
  refine IsLim.unique (impl_ValidNet.lim _ _ _ _ _ _) ?_
  unfold impl_ValidNet.f
  repeat' (first | exact IsLim.const _ | refine IsLim.ite ?_ ?_ | refine IsLim.bind ?_ (fun _ => ?_) | exact impl_ValidField.lim .. | exact impl_ValidNet.j0lim ..)
end Go.Proofs.Ytbalkaphibnpcaa.P
end
section
namespace Go.Proofs.Ytbalkaphibnpcaa.P
open Go.RowKit Go.Proofs.YtbalkaphibnpcaaW.PrintWords Go.Proofs.YtbalkaphibnpcaaW.PrintLast Go.Proofs.YtbalkaphibnpcaaW.PrintMore
set_option linter.unusedVariables false
set_option linter.unusedSimpArgs false
noncomputable def impl_nodeCode_AT_impl_always.d (a0_0 : Int) (a0_1 : Int) (a0_2 : Int) (a0_3 : Int) (l0_4 : List (List Int)) (l0_5 : List (List Int)) (a1 : Int) : Option (Int) := lim (fun k => impl_nodeCode_AT_impl_always.f k a0_0 a0_1 a0_2 a0_3 l0_4 l0_5 a1)
theorem impl_nodeCode_AT_impl_always.lim (a0_0 : Int) (a0_1 : Int) (a0_2 : Int) (a0_3 : Int) (l0_4 : List (List Int)) (l0_5 : List (List Int)) (a1 : Int) : IsLim (fun k => impl_nodeCode_AT_impl_always.f k a0_0 a0_1 a0_2 a0_3 l0_4 l0_5 a1) (impl_nodeCode_AT_impl_always.d a0_0 a0_1 a0_2 a0_3 l0_4 l0_5 a1) := lim_spec (fun k => impl_nodeCode_AT_impl_always.mono a0_0 a0_1 a0_2 a0_3 l0_4 l0_5 a1 k)
theorem impl_nodeCode_AT_impl_always.d_eq (a0_0 : Int) (a0_1 : Int) (a0_2 : Int) (a0_3 : Int) (l0_4 : List (List Int)) (l0_5 : List (List Int)) (a1 : Int) : impl_nodeCode_AT_impl_always.d a0_0 a0_1 a0_2 a0_3 l0_4 l0_5 a1 = (impl_ValidNet.d a0_0 a0_1 a0_2 a0_3 l0_4 l0_5).bind fun t452 => (if t452 = true then ((impl_Net_isNode.f a0_0 a0_1 a0_2 a0_3 l0_4 l0_5 a1).bind fun t453 => (if t453 = true then ((impl_always.f).bind fun t454 => (if t454 = true then (some 0) else (some 2))) else (some 2))) else (some 1)) := by
  refine IsLim.unique (impl_nodeCode_AT_impl_always.lim _ _ _ _ _ _ _) ?_
  unfold impl_nodeCode_AT_impl_always.f
  repeat' (first | exact IsLim.const _ | refine IsLim.ite ?_ ?_ | refine IsLim.bind ?_ (fun _ => ?_) | exact impl_ValidNet.lim ..)
noncomputable def impl_EdgesInto.d (a0_0 : Int) (a0_1 : Int) (a0_2 : Int) (a0_3 : Int) (l0_4 : List (List Int)) (l0_5 : List (List Int)) (a1 : Int) : Option (List Int × Int) := lim (fun k => impl_EdgesInto.f k a0_0 a0_1 a0_2 a0_3 l0_4 l0_5 a1)
theorem impl_EdgesInto.lim (a0_0 : Int) (a0_1 : Int) (a0_2 : Int) (a0_3 : Int) (l0_4 : List (List Int)) (l0_5 : List (List Int)) (a1 : Int) : IsLim (fun k => impl_EdgesInto.f k a0_0 a0_1 a0_2 a0_3 l0_4 l0_5 a1) (impl_EdgesInto.d a0_0 a0_1 a0_2 a0_3 l0_4 l0_5 a1) := lim_spec (fun k => impl_EdgesInto.mono a0_0 a0_1 a0_2 a0_3 l0_4 l0_5 a1 k)
theorem impl_EdgesInto.d_eq (a0_0 : Int) (a0_1 : Int) (a0_2 : Int) (a0_3 : Int) (l0_4 : List (List Int)) (l0_5 : List (List Int)) (a1 : Int) : impl_EdgesInto.d a0_0 a0_1 a0_2 a0_3 l0_4 l0_5 a1 = (impl_nodeCode_AT_impl_always.d a0_0 a0_1 a0_2 a0_3 l0_4 l0_5 a1).bind fun t456 => (if t456 = 0 then ((impl_Net_into.d a0_0 a0_1 a0_2 a0_3 l0_4 l0_5 a1).bind fun t457 => (some (t457, 0))) else (some (([] : List Int), t456))) := by
  refine IsLim.unique (impl_EdgesInto.lim _ _ _ _ _ _ _) ?_
  unfold impl_EdgesInto.f
  repeat' (first | exact IsLim.const _ | refine IsLim.ite ?_ ?_ | refine IsLim.bind ?_ (fun _ => ?_) | exact impl_nodeCode_AT_impl_always.lim .. | exact impl_Net_into.lim ..)
end Go.Proofs.Ytbalkaphibnpcaa.P
end
section
namespace Go.Proofs.Ytbalkaphibnpcaa.P
open Go.RowKit Go.Proofs.YtbalkaphibnpcaaW.PrintWords Go.Proofs.YtbalkaphibnpcaaW.PrintLast Go.Proofs.YtbalkaphibnpcaaW.PrintMore
set_option linter.unusedVariables false
set_option linter.unusedSimpArgs false
noncomputable def laws_eqInt64SS.l0d (x0 : List (List Int)) (x1 : List (List Int)) (x5 : Int) : Option (Bool) := lim (fun k => laws_eqInt64SS.l0 k x0 x1 x5)
theorem laws_eqInt64SS.l0lim (x0 : List (List Int)) (x1 : List (List Int)) (x5 : Int) : IsLim (fun k => laws_eqInt64SS.l0 k x0 x1 x5) (laws_eqInt64SS.l0d x0 x1 x5) := lim_spec (fun k => (laws_eqInt64SS.mono_l k) x0 x1 x5)
theorem laws_eqInt64SS.l0d_eq (x0 : List (List Int)) (x1 : List (List Int)) (x5 : Int) : laws_eqInt64SS.l0d x0 x1 x5 = if x5 < (x0.length : Int) then (if 0 ≤ x5 then (if x5 < (x1.length : Int) then ((laws_eqInt64S.d (rd_L1 x0 x5) (rd_L1 x1 x5)).bind fun t287 => (if t287 = true then (laws_eqInt64SS.l0d x0 x1 (wrap64 (x5 + 1))) else (some false))) else (none)) else (none)) else (some true) := by
  refine IsLim.unique (laws_eqInt64SS.l0lim _ _ _) ?_
  refine IsLim.shift (by rfl) ?_
  simp only [laws_eqInt64SS.l0]
  repeat' (first | exact IsLim.const _ | refine IsLim.ite ?_ ?_ | refine IsLim.bind ?_ (fun _ => ?_) | exact laws_eqInt64S.lim .. | exact laws_eqInt64SS.l0lim ..)
noncomputable def laws_eqInt64SS.d (l0 : List (List Int)) (l1 : List (List Int)) : Option (Bool) := lim (fun k => laws_eqInt64SS.f k l0 l1)
theorem laws_eqInt64SS.lim (l0 : List (List Int)) (l1 : List (List Int)) : IsLim (fun k => laws_eqInt64SS.f k l0 l1) (laws_eqInt64SS.d l0 l1) := lim_spec (fun k => laws_eqInt64SS.mono l0 l1 k)
theorem laws_eqInt64SS.d_eq (l0 : List (List Int)) (l1 : List (List Int)) : laws_eqInt64SS.d l0 l1 = if (l0.length : Int) = (l1.length : Int) then (laws_eqInt64SS.l0d l0 l1 0) else (some false) := by
  refine IsLim.unique (laws_eqInt64SS.lim _ _) ?_
  unfold laws_eqInt64SS.f
  repeat' (first | exact IsLim.const _ | refine IsLim.ite ?_ ?_ | refine IsLim.bind ?_ (fun _ => ?_) | exact laws_eqInt64SS.l0lim ..)
end Go.Proofs.Ytbalkaphibnpcaa.P
end
section
namespace Go.Proofs.Ytbalkaphibnpcaa.P
open Go.RowKit Go.Proofs.YtbalkaphibnpcaaW.PrintWords Go.Proofs.YtbalkaphibnpcaaW.PrintLast Go.Proofs.YtbalkaphibnpcaaW.PrintMore
set_option linter.unusedVariables false
set_option linter.unusedSimpArgs false
noncomputable def laws_eqNet.d (a0_0 : Int) (a0_1 : Int) (a0_2 : Int) (a0_3 : Int) (l0_4 : List (List Int)) (l0_5 : List (List Int)) (a1_0 : Int) (a1_1 : Int) (a1_2 : Int) (a1_3 : Int) (l1_4 : List (List Int)) (l1_5 : List (List Int)) : Option (Bool) := lim (fun k => laws_eqNet.f k a0_0 a0_1 a0_2 a0_3 l0_4 l0_5 a1_0 a1_1 a1_2 a1_3 l1_4 l1_5)
theorem laws_eqNet.lim (a0_0 : Int) (a0_1 : Int) (a0_2 : Int) (a0_3 : Int) (l0_4 : List (List Int)) (l0_5 : List (List Int)) (a1_0 : Int) (a1_1 : Int) (a1_2 : Int) (a1_3 : Int) (l1_4 : List (List Int)) (l1_5 : List (List Int)) : IsLim (fun k => laws_eqNet.f k a0_0 a0_1 a0_2 a0_3 l0_4 l0_5 a1_0 a1_1 a1_2 a1_3 l1_4 l1_5) (laws_eqNet.d a0_0 a0_1 a0_2 a0_3 l0_4 l0_5 a1_0 a1_1 a1_2 a1_3 l1_4 l1_5) := lim_spec (fun k => laws_eqNet.mono a0_0 a0_1 a0_2 a0_3 l0_4 l0_5 a1_0 a1_1 a1_2 a1_3 l1_4 l1_5 k)
theorem laws_eqNet.d_eq (a0_0 : Int) (a0_1 : Int) (a0_2 : Int) (a0_3 : Int) (l0_4 : List (List Int)) (l0_5 : List (List Int)) (a1_0 : Int) (a1_1 : Int) (a1_2 : Int) (a1_3 : Int) (l1_4 : List (List Int)) (l1_5 : List (List Int)) : laws_eqNet.d a0_0 a0_1 a0_2 a0_3 l0_4 l0_5 a1_0 a1_1 a1_2 a1_3 l1_4 l1_5 = (laws_eqField.f a0_0 a0_1 a1_0 a1_1).bind fun t464 => (if t464 = true then (if a0_2 = a1_2 then (if a0_3 = a1_3 then ((laws_eqInt64SS.d l0_4 l1_4).bind fun t465 => (if t465 = true then ((laws_eqInt64SS.d l0_5 l1_5).bind fun t466 => (if t466 = true then (some true) else (some false))) else (some false))) else (some false)) else (some false)) else (some false)) := by
  refine IsLim.unique (laws_eqNet.lim _ _ _ _ _ _ _ _ _ _ _ _) ?_
  unfold laws_eqNet.f
  repeat' (first | exact IsLim.const _ | refine IsLim.ite ?_ ?_ | refine IsLim.bind ?_ (fun _ => ?_) | exact laws_eqInt64SS.lim ..)
end Go.Proofs.Ytbalkaphibnpcaa.P
end
section
namespace Go.Proofs.Ytbalkaphibnpcaa.P
open Go.RowKit Go.Proofs.YtbalkaphibnpcaaW.PrintWords Go.Proofs.YtbalkaphibnpcaaW.PrintLast Go.Proofs.YtbalkaphibnpcaaW.PrintMore
set_option linter.unusedVariables false
set_option linter.unusedSimpArgs false
noncomputable def laws_markInt64S.l0d (x0 : List Int) (x1 : Int) (x5 : Int) : Option (Int × List Int) := lim (fun k => laws_markInt64S.l0 k x0 x1 x5)
theorem laws_markInt64S.l0lim (x0 : List Int) (x1 : Int) (x5 : Int) : IsLim (fun k => laws_markInt64S.l0 k x0 x1 x5) (laws_markInt64S.l0d x0 x1 x5) := lim_spec (fun k => (laws_markInt64S.mono_l k) x0 x1 x5)
theorem laws_markInt64S.l0d_eq (x0 : List Int) (x1 : Int) (x5 : Int) : laws_markInt64S.l0d x0 x1 x5 = if x5 < (x0.length : Int) then (if 0 ≤ x5 then (laws_markInt64S.l0d (x0.set (x5 : Int).toNat x1) (wrap64 (x1 + 1)) (wrap64 (x5 + 1))) else (none)) else (some (x1, x0)) := by
  refine IsLim.unique (laws_markInt64S.l0lim _ _ _) ?_
  refine IsLim.shift (by rfl) ?_
  simp only [laws_markInt64S.l0]
  repeat' (first | exact IsLim.const _ | refine IsLim.ite ?_ ?_ | refine IsLim.bind ?_ (fun _ => ?_) | exact laws_markInt64S.l0lim ..)
noncomputable def laws_markInt64S.d (l0 : List Int) (a1 : Int) : Option (Int × List Int) := lim (fun k => laws_markInt64S.f k l0 a1)
theorem laws_markInt64S.lim (l0 : List Int) (a1 : Int) : IsLim (fun k => laws_markInt64S.f k l0 a1) (laws_markInt64S.d l0 a1) := lim_spec (fun k => laws_markInt64S.mono l0 a1 k)
theorem laws_markInt64S.d_eq (l0 : List Int) (a1 : Int) : laws_markInt64S.d l0 a1 = laws_markInt64S.l0d l0 a1 0 := by
  refine IsLim.unique (laws_markInt64S.lim _ _) ?_
  unfold laws_markInt64S.f
  repeat' (first | exact IsLim.const _ | refine IsLim.ite ?_ ?_ | refine IsLim.bind ?_ (fun _ => ?_) | exact laws_markInt64S.l0lim ..)
noncomputable def laws_heldInt64S.l0d (x0 : List Int) (x1 : Int) (x5 : Int) : Option (Int) := lim (fun k => laws_heldInt64S.l0 k x0 x1 x5)
theorem laws_heldInt64S.l0lim (x0 : List Int) (x1 : Int) (x5 : Int) : IsLim (fun k => laws_heldInt64S.l0 k x0 x1 x5) (laws_heldInt64S.l0d x0 x1 x5) := lim_spec (fun k => (laws_heldInt64S.mono_l k) x0 x1 x5)
theorem laws_heldInt64S.l0d_eq (x0 : List Int) (x1 : Int) (x5 : Int) : laws_heldInt64S.l0d x0 x1 x5 = if x5 < (x0.length : Int) then (if 0 ≤ x5 then (if (rd x0 x5) = x1 then (laws_heldInt64S.l0d x0 (wrap64 (x1 + 1)) (wrap64 (x5 + 1))) else (some (-1))) else (none)) else (some x1) := by
  refine IsLim.unique (laws_heldInt64S.l0lim _ _ _) ?_
  refine IsLim.shift (by rfl) ?_
  simp only [laws_heldInt64S.l0]
  repeat' (first | exact IsLim.const _ | refine IsLim.ite ?_ ?_ | refine IsLim.bind ?_ (fun _ => ?_) | exact laws_heldInt64S.l0lim ..)
noncomputable def laws_heldInt64S.d (l0 : List Int) (a1 : Int) : Option (Int) := lim (fun k => laws_heldInt64S.f k l0 a1)
theorem laws_heldInt64S.lim (l0 : List Int) (a1 : Int) : IsLim (fun k => laws_heldInt64S.f k l0 a1) (laws_heldInt64S.d l0 a1) := lim_spec (fun k => laws_heldInt64S.mono l0 a1 k)
theorem laws_heldInt64S.d_eq (l0 : List Int) (a1 : Int) : laws_heldInt64S.d l0 a1 = laws_heldInt64S.l0d l0 a1 0 := by
  refine IsLim.unique (laws_heldInt64S.lim _ _) ?_
  unfold laws_heldInt64S.f
  repeat' (first | exact IsLim.const _ | refine IsLim.ite ?_ ?_ | refine IsLim.bind ?_ (fun _ => ?_) | exact laws_heldInt64S.l0lim ..)
end Go.Proofs.Ytbalkaphibnpcaa.P
end
section
namespace Go.Proofs.Ytbalkaphibnpcaa.P
open Go.RowKit Go.Proofs.YtbalkaphibnpcaaW.PrintWords Go.Proofs.YtbalkaphibnpcaaW.PrintLast Go.Proofs.YtbalkaphibnpcaaW.PrintMore
set_option linter.unusedVariables false
set_option linter.unusedSimpArgs false
noncomputable def laws_markInt64SS.l0d (x0 : List (List Int)) (x1 : Int) (x5 : Int) : Option (Int × List (List Int)) := lim (fun k => laws_markInt64SS.l0 k x0 x1 x5)
theorem laws_markInt64SS.l0lim (x0 : List (List Int)) (x1 : Int) (x5 : Int) : IsLim (fun k => laws_markInt64SS.l0 k x0 x1 x5) (laws_markInt64SS.l0d x0 x1 x5) := lim_spec (fun k => (laws_markInt64SS.mono_l k) x0 x1 x5)
theorem laws_markInt64SS.l0d_eq (x0 : List (List Int)) (x1 : Int) (x5 : Int) : laws_markInt64SS.l0d x0 x1 x5 = if x5 < (x0.length : Int) then (if 0 ≤ x5 then ((laws_markInt64S.d (rd_L1 x0 x5) x1).bind fun bt => (laws_markInt64SS.l0d (x0.set x5.toNat bt.2) bt.1 (wrap64 (x5 + 1)))) else (none)) else (some (x1, x0)) := by
  refine IsLim.unique (laws_markInt64SS.l0lim _ _ _) ?_
  refine IsLim.shift (by rfl) ?_
  simp only [laws_markInt64SS.l0]
  repeat' (first | exact IsLim.const _ | refine IsLim.ite ?_ ?_ | refine IsLim.bind ?_ (fun _ => ?_) | exact laws_markInt64S.lim .. | exact laws_markInt64SS.l0lim ..)
noncomputable def laws_markInt64SS.d (l0 : List (List Int)) (a1 : Int) : Option (Int × List (List Int)) := lim (fun k => laws_markInt64SS.f k l0 a1)
theorem laws_markInt64SS.lim (l0 : List (List Int)) (a1 : Int) : IsLim (fun k => laws_markInt64SS.f k l0 a1) (laws_markInt64SS.d l0 a1) := lim_spec (fun k => laws_markInt64SS.mono l0 a1 k)
theorem laws_markInt64SS.d_eq (l0 : List (List Int)) (a1 : Int) : laws_markInt64SS.d l0 a1 = laws_markInt64SS.l0d l0 a1 0 := by
  refine IsLim.unique (laws_markInt64SS.lim _ _) ?_
  unfold laws_markInt64SS.f
  repeat' (first | exact IsLim.const _ | refine IsLim.ite ?_ ?_ | refine IsLim.bind ?_ (fun _ => ?_) | exact laws_markInt64SS.l0lim ..)
end Go.Proofs.Ytbalkaphibnpcaa.P
end
section
namespace Go.Proofs.Ytbalkaphibnpcaa.P
open Go.RowKit Go.Proofs.YtbalkaphibnpcaaW.PrintWords Go.Proofs.YtbalkaphibnpcaaW.PrintLast Go.Proofs.YtbalkaphibnpcaaW.PrintMore
set_option linter.unusedVariables false
set_option linter.unusedSimpArgs false
noncomputable def laws_markNet.d (a0_0 : Int) (a0_1 : Int) (a0_2 : Int) (a0_3 : Int) (l0_4 : List (List Int)) (l0_5 : List (List Int)) (a1 : Int) : Option (Int × List (List Int) × List (List Int)) := lim (fun k => laws_markNet.f k a0_0 a0_1 a0_2 a0_3 l0_4 l0_5 a1)
theorem laws_markNet.lim (a0_0 : Int) (a0_1 : Int) (a0_2 : Int) (a0_3 : Int) (l0_4 : List (List Int)) (l0_5 : List (List Int)) (a1 : Int) : IsLim (fun k => laws_markNet.f k a0_0 a0_1 a0_2 a0_3 l0_4 l0_5 a1) (laws_markNet.d a0_0 a0_1 a0_2 a0_3 l0_4 l0_5 a1) := lim_spec (fun k => laws_markNet.mono a0_0 a0_1 a0_2 a0_3 l0_4 l0_5 a1 k)
theorem laws_markNet.d_eq (a0_0 : Int) (a0_1 : Int) (a0_2 : Int) (a0_3 : Int) (l0_4 : List (List Int)) (l0_5 : List (List Int)) (a1 : Int) : laws_markNet.d a0_0 a0_1 a0_2 a0_3 l0_4 l0_5 a1 = (laws_markInt64SS.d l0_4 a1).bind fun bt1 => ((laws_markInt64SS.d l0_5 bt1.1).bind fun bt2 => (some (bt2.1, bt1.2, bt2.2))) := by
  refine IsLim.unique (laws_markNet.lim _ _ _ _ _ _ _) ?_
  unfold laws_markNet.f
  repeat' (first | exact IsLim.const _ | refine IsLim.ite ?_ ?_ | refine IsLim.bind ?_ (fun _ => ?_) | exact laws_markInt64SS.lim ..)
end Go.Proofs.Ytbalkaphibnpcaa.P
end
section
namespace Go.Proofs.Ytbalkaphibnpcaa.P
open Go.RowKit Go.Proofs.YtbalkaphibnpcaaW.PrintWords Go.Proofs.YtbalkaphibnpcaaW.PrintLast Go.Proofs.YtbalkaphibnpcaaW.PrintMore
set_option linter.unusedVariables false
set_option linter.unusedSimpArgs false
noncomputable def laws_FnExactEdgesInto.j0d (x1 : Int) (x6 : List Int) (x7 : Int) (x9 : List Int) (x10 : Int) (x44 : Bool) (x468000 : Int) (x468001 : Int) (x468002 : Int) (x468003 : Int) (x468004 : List (List Int)) (x468005 : List (List Int)) (x494000 : Int) (x494001 : Int) (x494002 : Int) (x494003 : Int) (x494004 : List (List Int)) (x494005 : List (List Int)) : Option (Bool) := lim (fun k => laws_FnExactEdgesInto.j0 k x1 x6 x7 x9 x10 x44 x468000 x468001 x468002 x468003 x468004 x468005 x494000 x494001 x494002 x494003 x494004 x494005)
theorem laws_FnExactEdgesInto.j0lim (x1 : Int) (x6 : List Int) (x7 : Int) (x9 : List Int) (x10 : Int) (x44 : Bool) (x468000 : Int) (x468001 : Int) (x468002 : Int) (x468003 : Int) (x468004 : List (List Int)) (x468005 : List (List Int)) (x494000 : Int) (x494001 : Int) (x494002 : Int) (x494003 : Int) (x494004 : List (List Int)) (x494005 : List (List Int)) : IsLim (fun k => laws_FnExactEdgesInto.j0 k x1 x6 x7 x9 x10 x44 x468000 x468001 x468002 x468003 x468004 x468005 x494000 x494001 x494002 x494003 x494004 x494005) (laws_FnExactEdgesInto.j0d x1 x6 x7 x9 x10 x44 x468000 x468001 x468002 x468003 x468004 x468005 x494000 x494001 x494002 x494003 x494004 x494005) := lim_spec (fun k => (laws_FnExactEdgesInto.mono_l k).1 x1 x6 x7 x9 x10 x44 x468000 x468001 x468002 x468003 x468004 x468005 x494000 x494001 x494002 x494003 x494004 x494005)
noncomputable def laws_FnExactEdgesInto.j1d (x1 : Int) (x6 : List Int) (x7 : Int) (x9 : List Int) (x65 : Bool) (x468000 : Int) (x468001 : Int) (x468002 : Int) (x468003 : Int) (x468004 : List (List Int)) (x468005 : List (List Int)) : Option (Bool) := lim (fun k => laws_FnExactEdgesInto.j1 k x1 x6 x7 x9 x65 x468000 x468001 x468002 x468003 x468004 x468005)
theorem laws_FnExactEdgesInto.j1lim (x1 : Int) (x6 : List Int) (x7 : Int) (x9 : List Int) (x65 : Bool) (x468000 : Int) (x468001 : Int) (x468002 : Int) (x468003 : Int) (x468004 : List (List Int)) (x468005 : List (List Int)) : IsLim (fun k => laws_FnExactEdgesInto.j1 k x1 x6 x7 x9 x65 x468000 x468001 x468002 x468003 x468004 x468005) (laws_FnExactEdgesInto.j1d x1 x6 x7 x9 x65 x468000 x468001 x468002 x468003 x468004 x468005) := lim_spec (fun k => (laws_FnExactEdgesInto.mono_l k).2.1 x1 x6 x7 x9 x65 x468000 x468001 x468002 x468003 x468004 x468005)
noncomputable def laws_FnExactEdgesInto.j2d (x9 : List Int) (x12 : Int) (x92 : Bool) : Option (Bool) := lim (fun k => laws_FnExactEdgesInto.j2 k x9 x12 x92)
theorem laws_FnExactEdgesInto.j2lim (x9 : List Int) (x12 : Int) (x92 : Bool) : IsLim (fun k => laws_FnExactEdgesInto.j2 k x9 x12 x92) (laws_FnExactEdgesInto.j2d x9 x12 x92) := lim_spec (fun k => (laws_FnExactEdgesInto.mono_l k).2.2 x9 x12 x92)
theorem laws_FnExactEdgesInto.j0d_eq (x1 : Int) (x6 : List Int) (x7 : Int) (x9 : List Int) (x10 : Int) (x44 : Bool) (x468000 : Int) (x468001 : Int) (x468002 : Int) (x468003 : Int) (x468004 : List (List Int)) (x468005 : List (List Int)) (x494000 : Int) (x494001 : Int) (x494002 : Int) (x494003 : Int) (x494004 : List (List Int)) (x494005 : List (List Int)) : laws_FnExactEdgesInto.j0d x1 x6 x7 x9 x10 x44 x468000 x468001 x468002 x468003 x468004 x468005 x494000 x494001 x494002 x494003 x494004 x494005 = if x44 = true then (some false) else ((laws_toNet.d x468000 x468001 x468002 x468003 x468004 x468005).bind fun bt499 => ((laws_eqNet.d x494000 x494001 x494002 x494003 x494004 x494005 bt499.1 bt499.2.1 bt499.2.2.1 bt499.2.2.2.1 bt499.2.2.2.2.1 bt499.2.2.2.2.2).bind fun t509 => (if t509 = true then ((laws_markNet.d x494000 x494001 x494002 x494003 x494004 x494005 1).bind fun bt510 => (if bt510.1 < 0 then (laws_FnExactEdgesInto.j1d x1 x6 x7 x9 true x468000 x468001 x468002 x468003 x468004 x468005) else ((laws_eqInt64S.d x9 x6).bind fun t511 => (if t511 = true then (laws_FnExactEdgesInto.j1d x1 x6 x7 x9 (x10 != x7) x468000 x468001 x468002 x468003 x468004 x468005) else (laws_FnExactEdgesInto.j1d x1 x6 x7 x9 true x468000 x468001 x468002 x468003 x468004 x468005))))) else (some false)))) := by
  refine IsLim.unique (laws_FnExactEdgesInto.j0lim _ _ _ _ _ _ _ _ _ _ _ _ _ _ _ _ _ _) ?_
  refine IsLim.shift (by rfl) ?_
  simp only [laws_FnExactEdgesInto.j0]
  repeat' (first | exact IsLim.const _ | refine IsLim.ite ?_ ?_ | refine IsLim.bind ?_ (fun _ => ?_) | exact laws_toNet.lim .. | exact laws_eqNet.lim .. | exact laws_markNet.lim .. | exact laws_eqInt64S.lim .. | exact laws_FnExactEdgesInto.j1lim ..)
theorem laws_FnExactEdgesInto.j1d_eq (x1 : Int) (x6 : List Int) (x7 : Int) (x9 : List Int) (x65 : Bool) (x468000 : Int) (x468001 : Int) (x468002 : Int) (x468003 : Int) (x468004 : List (List Int)) (x468005 : List (List Int)) : laws_FnExactEdgesInto.j1d x1 x6 x7 x9 x65 x468000 x468001 x468002 x468003 x468004 x468005 = if x65 = true then (some false) else ((laws_markInt64S.d x9 1).bind fun bt512 => ((laws_heldInt64S.d bt512.2 1).bind fun t514 => (if t514 < 0 then (some false) else (if t514 = bt512.1 then ((laws_toNet.d x468000 x468001 x468002 x468003 x468004 x468005).bind fun bt515 => ((impl_EdgesInto.d bt515.1 bt515.2.1 bt515.2.2.1 bt515.2.2.2.1 bt515.2.2.2.2.1 bt515.2.2.2.2.2 x1).bind fun bt525 => ((laws_eqInt64S.d bt525.1 x6).bind fun t529 => (if t529 = true then (laws_FnExactEdgesInto.j2d bt512.2 bt512.1 (bt525.2 != x7)) else (laws_FnExactEdgesInto.j2d bt512.2 bt512.1 true))))) else (some false))))) := by
  refine IsLim.unique (laws_FnExactEdgesInto.j1lim _ _ _ _ _ _ _ _ _ _ _) ?_
  refine IsLim.shift (by rfl) ?_
  simp only [laws_FnExactEdgesInto.j1]
  repeat' (first | exact IsLim.const _ | refine IsLim.ite ?_ ?_ | refine IsLim.bind ?_ (fun _ => ?_) | exact laws_markInt64S.lim .. | exact laws_heldInt64S.lim .. | exact laws_toNet.lim .. | exact impl_EdgesInto.lim .. | exact laws_eqInt64S.lim .. | exact laws_FnExactEdgesInto.j2lim ..)
theorem laws_FnExactEdgesInto.j2d_eq (x9 : List Int) (x12 : Int) (x92 : Bool) : laws_FnExactEdgesInto.j2d x9 x12 x92 = if x92 = true then (some false) else ((laws_heldInt64S.d x9 1).bind fun t530 => (if t530 < 0 then (some false) else (if t530 = x12 then (some true) else (some false)))) := by
  refine IsLim.unique (laws_FnExactEdgesInto.j2lim _ _ _) ?_
  refine IsLim.shift (by rfl) ?_
  simp only [laws_FnExactEdgesInto.j2]
  repeat' (first | exact IsLim.const _ | refine IsLim.ite ?_ ?_ | refine IsLim.bind ?_ (fun _ => ?_) | exact laws_heldInt64S.lim ..)
noncomputable def laws_FnExactEdgesInto.d (a0_0 : Int) (a0_1 : Int) (a0_2 : Int) (a0_3 : Int) (l0_4 : List (List Int)) (l0_5 : List (List Int)) (a1 : Int) : Option (Bool) := lim (fun k => laws_FnExactEdgesInto.f k a0_0 a0_1 a0_2 a0_3 l0_4 l0_5 a1)
theorem laws_FnExactEdgesInto.lim (a0_0 : Int) (a0_1 : Int) (a0_2 : Int) (a0_3 : Int) (l0_4 : List (List Int)) (l0_5 : List (List Int)) (a1 : Int) : IsLim (fun k => laws_FnExactEdgesInto.f k a0_0 a0_1 a0_2 a0_3 l0_4 l0_5 a1) (laws_FnExactEdgesInto.d a0_0 a0_1 a0_2 a0_3 l0_4 l0_5 a1) := lim_spec (fun k => laws_FnExactEdgesInto.mono a0_0 a0_1 a0_2 a0_3 l0_4 l0_5 a1 k)
theorem laws_FnExactEdgesInto.d_eq (a0_0 : Int) (a0_1 : Int) (a0_2 : Int) (a0_3 : Int) (l0_4 : List (List Int)) (l0_5 : List (List Int)) (a1 : Int) : laws_FnExactEdgesInto.d a0_0 a0_1 a0_2 a0_3 l0_4 l0_5 a1 = (laws_szNet.d a0_0 a0_1 a0_2 a0_3 l0_4 l0_5 1048576).bind fun t468 => (if t468 < 0 then (some true) else ((laws_toNet.d a0_0 a0_1 a0_2 a0_3 l0_4 l0_5).bind fun bt469 => ((spec_EdgesInto.d bt469.1 bt469.2.1 bt469.2.2.1 bt469.2.2.2.1 bt469.2.2.2.2.1 bt469.2.2.2.2.2 a1).bind fun bt479 => ((laws_toNet.d a0_0 a0_1 a0_2 a0_3 l0_4 l0_5).bind fun bt483 => ((impl_EdgesInto.d bt483.1 bt483.2.1 bt483.2.2.1 bt483.2.2.2.1 bt483.2.2.2.2.1 bt483.2.2.2.2.2 a1).bind fun bt494 => ((laws_eqInt64S.d bt494.1 bt479.1).bind fun t498 => (if t498 = true then (laws_FnExactEdgesInto.j0d a1 bt479.1 bt479.2 bt494.1 bt494.2 (bt494.2 != bt479.2) a0_0 a0_1 a0_2 a0_3 l0_4 l0_5 bt483.1 bt483.2.1 bt483.2.2.1 bt483.2.2.2.1 bt483.2.2.2.2.1 bt483.2.2.2.2.2) else (laws_FnExactEdgesInto.j0d a1 bt479.1 bt479.2 bt494.1 bt494.2 true a0_0 a0_1 a0_2 a0_3 l0_4 l0_5 bt483.1 bt483.2.1 bt483.2.2.1 bt483.2.2.2.1 bt483.2.2.2.2.1 bt483.2.2.2.2.2)))))))) := by
  refine IsLim.unique (laws_FnExactEdgesInto.lim _ _ _ _ _ _ _) ?_
  unfold laws_FnExactEdgesInto.f
  repeat' (first | exact IsLim.const _ | refine IsLim.ite ?_ ?_ | refine IsLim.bind ?_ (fun _ => ?_) | exact laws_szNet.lim .. | exact laws_toNet.lim .. | exact spec_EdgesInto.lim .. | exact impl_EdgesInto.lim .. | exact laws_eqInt64S.lim .. | exact laws_FnExactEdgesInto.j0lim ..)
end Go.Proofs.Ytbalkaphibnpcaa.P
end
section
namespace Go.Proofs.Ytbalkaphibnpcaa.P
open Go.RowKit Go.Proofs.YtbalkaphibnpcaaW.PrintWords Go.Proofs.YtbalkaphibnpcaaW.PrintLast Go.Proofs.YtbalkaphibnpcaaW.PrintMore
set_option linter.unusedVariables false
set_option linter.unusedSimpArgs false
theorem wr {x : Int} (h0 : -9223372036854775808 ≤ x) (h1 : x < 9223372036854775808) : wrap64 x = x := by
  unfold wrap64; omega
theorem wrS {i n : Nat} (h : i < n) (hn : n ≤ 17592186044416) : wrap64 ((i : Int) + 1) = ((i + 1 : Nat) : Int) := by rw [wr (by omega) (by omega)]; omega
theorem down {Q : Nat → Prop} {n : Nat} (h0 : Q n) (hs : ∀ i, i < n → Q (i + 1) → Q i) : ∀ i, i ≤ n → Q i := by
  intro i hi
  obtain ⟨d, hd⟩ : ∃ d, d = n - i := ⟨_, rfl⟩
  induction d generalizing i with
  | zero => have : i = n := by omega
            exact this ▸ h0
  | succ d ih => exact hs i (by omega) (ih (i + 1) (by omega) (by omega))
theorem rd_get {l : List Int} {i : Nat} (h : i < l.length) : rd l (i : Int) = l[i] := rd_at l i h
theorem bind_some' {α β : Type} (a : α) (f : α → Option β) : (some a).bind f = f a := rfl
/-- a, a + 1, .. -/
def iota (a : Int) : Nat → List Int
  | 0 => []
  | n + 1 => a :: iota (a + 1) n
theorem iota_length (a : Int) (n : Nat) : (iota a n).length = n := by
  induction n generalizing a with
  | zero => rfl
  | succ n ih => simp [iota, ih]
theorem iota_get (a : Int) (n : Nat) : ∀ (i : Nat) (h : i < (iota a n).length), (iota a n)[i] = a + i := by
  induction n generalizing a with
  | zero => intro i h; simp [iota] at h
  | succ n ih =>
    intro i h
    cases i with
    | zero => simp [iota]
    | succ i => simp only [iota, List.getElem_cons_succ]; rw [ih]; omega
theorem iota_snoc (a : Int) (n : Nat) : iota a (n + 1) = iota a n ++ [a + n] := by
  induction n generalizing a with
  | zero => simp [iota]
  | succ n ih => rw [iota, ih, iota]; simp; omega
/-- the first place where `q` holds, by a walk upward -/
theorem index_gen {F : Int → Option Int} {n : Nat} {q : Nat → Bool} (hend : F (n : Int) = some (-1))
    (heq : ∀ i : Nat, i < n → F (i : Int) = if q i = true then some (i : Int) else F ((i + 1 : Nat) : Int)) :
    ∃ v, F 0 = some v ∧ (decide (v ≥ 0) = !decide (∀ i, i < n → q i = false)) ∧ (0 ≤ v → v.toNat < n ∧ q v.toNat = true ∧ ∀ j, j < v.toNat → q j = false) := by
  have key : ∀ i, i ≤ n → ∃ v, F (i : Int) = some v ∧ (v ≥ 0 ↔ ¬ ∀ j, i ≤ j → j < n → q j = false) ∧ (0 ≤ v → i ≤ v.toNat ∧ v.toNat < n ∧ q v.toNat = true ∧ ∀ j, i ≤ j → j < v.toNat → q j = false) := by
    apply down
    · exact ⟨-1, hend, ⟨fun h => absurd h (by decide), fun h => absurd (fun j _ _ => by omega) h⟩, fun h => absurd h (by decide)⟩
    · intro i hi ⟨v, e, c, d⟩
      rw [heq i hi]
      by_cases hq : q i = true
      · rw [if_pos hq]
        exact ⟨i, rfl, ⟨fun _ h => (by rw [h i (by omega) hi] at hq; cases hq), fun _ => by omega⟩, fun _ => ⟨by simp, by simpa using hi, by simpa using hq, fun j h1 h2 => by simp at h2; omega⟩⟩
      · rw [if_neg hq]
        have hq' : q i = false := Bool.eq_false_iff.mpr hq
        refine ⟨v, e, c.trans ⟨fun h h' => h fun j a b => h' j (by omega) b, fun h h' => h fun j a b => ?_⟩, fun h => ?_⟩
        · rcases Nat.lt_or_ge i j with z | z
          · exact h' j z b
          · have : j = i := by omega
            rw [this, hq']
        · obtain ⟨a1, a2, a3, a4⟩ := d h
          refine ⟨by omega, a2, a3, fun j h1 h2 => ?_⟩
          rcases Nat.lt_or_ge i j with z | z
          · exact a4 j z h2
          · have : j = i := by omega
            rw [this, hq']
  obtain ⟨v, e, c, d⟩ := key 0 (by omega)
  refine ⟨v, e, ?_, fun h => ⟨(d h).2.1, (d h).2.2.1, fun j hj => (d h).2.2.2 j (by omega) hj⟩⟩
  rw [← decide_not]
  apply decide_eq_decide.mpr
  exact c.trans ⟨fun h h' => h fun j _ b => h' j b, fun h h' => h fun j b => h' j (by omega) b⟩
theorem all_gen {F : Int → Option Bool} {n : Nat} {q : Nat → Bool} (hend : F (n : Int) = some true)
    (heq : ∀ i : Nat, i < n → F (i : Int) = if q i = true then F ((i + 1 : Nat) : Int) else some false) :
    F 0 = some (decide (∀ i, i < n → q i = true)) := by
  have key : ∀ i, i ≤ n → ∃ b, F (i : Int) = some b ∧ (b = true ↔ ∀ j, i ≤ j → j < n → q j = true) := by
    apply down
    · exact ⟨true, hend, ⟨fun _ j a b => by omega, fun _ => rfl⟩⟩
    · intro i hi ⟨b, e, c⟩
      rw [heq i hi, e]
      by_cases hq : q i = true
      · rw [if_pos hq]
        refine ⟨b, rfl, c.trans ⟨fun h j a b => ?_, fun h j a b => h j (by omega) b⟩⟩
        rcases Nat.lt_or_ge i j with z | z
        · exact h j z b
        · have : j = i := by omega
          rw [this, hq]
      · rw [if_neg hq]
        exact ⟨false, rfl, ⟨(fun h => absurd h (by decide)), fun h => absurd (h i (by omega) hi) hq⟩⟩
  obtain ⟨b, e, c⟩ := key 0 (by omega)
  have e' : F 0 = some b := e
  rw [e']
  congr 1
  rw [Bool.eq_iff_iff, decide_eq_true_iff]
  exact c.trans ⟨fun h j b => h j (by omega) b, fun h j _ b => h j b⟩
theorem all_get {l : List Int} {q : Int → Bool} : decide (∀ i, i < l.length → q (rd l (i : Int)) = true) = l.all q := by
  rw [Bool.eq_iff_iff, decide_eq_true_iff, List.all_eq_true]
  constructor
  · intro h x hx
    obtain ⟨i, hi, e⟩ := List.getElem_of_mem hx
    have := h i hi
    rwa [rd_get hi, e] at this
  · intro h i hi
    rw [rd_get hi]; exact h _ (List.getElem_mem hi)
end Go.Proofs.Ytbalkaphibnpcaa.P
end
section
namespace Go.Proofs.Ytbalkaphibnpcaa.P
open Go.RowKit Go.Proofs.YtbalkaphibnpcaaW.PrintWords Go.Proofs.YtbalkaphibnpcaaW.PrintLast Go.Proofs.YtbalkaphibnpcaaW.PrintMore
set_option linter.unusedVariables false
set_option linter.unusedSimpArgs false
theorem toInt64S_v {l : List Int} (h : l.length ≤ 17592186044416) : laws_toInt64S.d l = some l := by
  have key : ∀ i, i ≤ l.length → laws_toInt64S.l0d l (l.take i ++ List.replicate (l.length - i) 0) (i : Int) = some l := by
    apply down
    · rw [laws_toInt64S.l0d_eq, if_neg (by omega)]; simp
    · intro i hi ih
      rw [laws_toInt64S.l0d_eq, if_pos (by omega), if_pos (by omega), if_pos (by simp; omega), wrS hi h, rd_get hi]
      rw [← ih]
      congr 1
      rw [List.take_succ_eq_append_getElem hi, Int.toNat_natCast]
      apply List.ext_getElem
      · simp; omega
      · intro j h1 h2
        simp only [List.getElem_set, List.getElem_append, List.length_take, List.length_append, List.getElem_take, List.getElem_replicate, List.length_cons, List.length_nil]
        simp only [List.length_set, List.length_append, List.length_take, List.length_replicate] at h1
        by_cases c : i = j
        · subst c; rw [if_pos rfl, dif_pos (by omega), dif_neg (by omega)]; simp
        · rw [if_neg c]
          by_cases c2 : j < i
          · rw [dif_pos (by omega), dif_pos (by omega), dif_pos (by omega)]
          · rw [dif_neg (by omega), dif_neg (by omega)]
  rw [laws_toInt64S.d_eq, if_pos (by omega), if_pos (by omega)]
  have := key 0 (by omega)
  simpa using this
theorem eqInt64S_v {a b : List Int} (h : a.length ≤ 17592186044416) : laws_eqInt64S.d a b = some (decide (a = b)) := by
  rw [laws_eqInt64S.d_eq]
  by_cases hl : a.length = b.length
  · rw [if_pos (by omega)]
    have key : ∀ i, i ≤ a.length → laws_eqInt64S.l0d a b (i : Int) = some (decide (a.drop i = b.drop i)) := by
      apply down
      · rw [laws_eqInt64S.l0d_eq, if_neg (by omega)]; simp [hl]
      · intro i hi ih
        have hb : i < b.length := by omega
        rw [laws_eqInt64S.l0d_eq, if_pos (by omega), if_pos (by omega), if_pos (by omega), wrS hi h, rd_get hi, rd_get hb, ih]
        rw [List.drop_eq_getElem_cons hi, List.drop_eq_getElem_cons hb]
        by_cases c : a[i] = b[i]
        · rw [if_pos c]; simp only [List.cons.injEq, c, true_and]
        · rw [if_neg c]; simp only [List.cons.injEq, c, false_and, decide_false]
    have := key 0 (by omega)
    simpa using this
  · rw [if_neg (by omega)]
    have : a ≠ b := fun e => hl (by rw [e])
    simp [this]
theorem eqInt64S_self {a : List Int} (h : a.length ≤ 17592186044416) : laws_eqInt64S.d a a = some true := by rw [eqInt64S_v h]; simp
end Go.Proofs.Ytbalkaphibnpcaa.P
end
section
namespace Go.Proofs.Ytbalkaphibnpcaa.P
open Go.RowKit Go.Proofs.YtbalkaphibnpcaaW.PrintWords Go.Proofs.YtbalkaphibnpcaaW.PrintLast Go.Proofs.YtbalkaphibnpcaaW.PrintMore
set_option linter.unusedVariables false
set_option linter.unusedSimpArgs false
theorem markInt64S_v {l : List Int} {a : Int} (h : l.length ≤ 17592186044416) (h0 : 0 ≤ a) (h1 : a ≤ 4611686018427387904) :
    laws_markInt64S.d l a = some (a + l.length, iota a l.length) := by
  have key : ∀ i, i ≤ l.length → laws_markInt64S.l0d (iota a i ++ l.drop i) (a + i) (i : Int) = some (a + l.length, iota a l.length) := by
    apply down
    · rw [laws_markInt64S.l0d_eq, if_neg (by simp [iota_length])]; simp
    · intro i hi ih
      rw [laws_markInt64S.l0d_eq, if_pos (by simp [iota_length]; omega), if_pos (by omega), wrS hi h, wr (x := a + i + 1) (by omega) (by omega), ← ih]
      congr 1
      · rw [iota_snoc, Int.toNat_natCast, List.set_append]
        simp only [iota_length, Nat.lt_irrefl, if_false, Nat.sub_self]
        rw [List.drop_eq_getElem_cons hi]
        simp only [List.set_cons_zero, List.append_assoc, List.singleton_append]
      · omega
  rw [laws_markInt64S.d_eq]
  have := key 0 (by omega)
  simpa [iota] using this
theorem heldInt64S_v {n : Nat} {a : Int} (h : n ≤ 17592186044416) (h0 : 0 ≤ a) (h1 : a ≤ 4611686018427387904) :
    laws_heldInt64S.d (iota a n) a = some (a + n) := by
  have key : ∀ i, i ≤ n → laws_heldInt64S.l0d (iota a n) (a + i) (i : Int) = some (a + n) := by
    apply down
    · rw [laws_heldInt64S.l0d_eq, if_neg (by simp [iota_length])]
    · intro i hi ih
      have hi' : i < (iota a n).length := by rw [iota_length]; exact hi
      rw [laws_heldInt64S.l0d_eq, if_pos (by omega), if_pos (by omega), rd_get hi', iota_get, if_pos rfl, wrS hi h, wr (x := a + i + 1) (by omega) (by omega), ← ih]
      congr 1; omega
  rw [laws_heldInt64S.d_eq]
  have := key 0 (by omega)
  simpa using this
end Go.Proofs.Ytbalkaphibnpcaa.P
end
section
namespace Go.Proofs.Ytbalkaphibnpcaa.P
open Go.RowKit Go.Proofs.YtbalkaphibnpcaaW.PrintWords Go.Proofs.YtbalkaphibnpcaaW.PrintLast Go.Proofs.YtbalkaphibnpcaaW.PrintMore
set_option linter.unusedVariables false
set_option linter.unusedSimpArgs false
/-- the irreducible polynomials of degree 1 .. 5, as numbers -/
def irrs : List Int := [2, 3, 7, 11, 13, 19, 25, 31, 37, 41, 47, 55, 59, 61]
def irrB (p : Int) : Bool := irrs.contains p
/-- the fields: degree and polynomial -/
def fields14 : List (Int × Int) := [(1, 2), (1, 3), (2, 7), (3, 11), (3, 13), (4, 19), (4, 25), (4, 31), (5, 37), (5, 41), (5, 47), (5, 55), (5, 59), (5, 61)]
def validB (m p : Int) : Bool := fields14.contains (m, p)
theorem of_range {P : Int → Prop} (n : Nat) (lo : Int) (h : ∀ i, i < n → P (lo + i)) : ∀ x, lo ≤ x → x < lo + n → P x := by
  intro x h0 h1
  have := h (x - lo).toNat (by omega)
  rwa [show lo + ((x - lo).toNat : Int) = x by omega] at this
theorem i_irr_small : ∀ i, i < 62 → impl_IsIrreducible.f 80 (2 + (i : Nat)) = some (irrB (2 + (i : Nat))) := by decide +kernel
theorem irrB_big {p : Int} (h : p < 2 ∨ 64 ≤ p) : irrB p = false := by
  have : p ∉ irrs := by
    have hb : ∀ q ∈ irrs, 2 ≤ q ∧ q < 64 := by decide +kernel
    intro hp
    have := hb p hp
    omega
  unfold irrB
  rw [List.contains_eq_mem, decide_eq_false this]
theorem i_IsIrreducible_v (p : Int) : impl_IsIrreducible.d p = some (irrB p) := by
  by_cases h : p < 2
  · rw [impl_IsIrreducible.d_eq, if_pos h, impl_IsIrreducible.j0d_eq, if_pos rfl, irrB_big (.inl h)]
  · by_cases h2 : p < 64
    · have := of_range (P := fun p => impl_IsIrreducible.f 80 p = some (irrB p)) 62 2 i_irr_small p (by omega) (by omega)
      exact ((impl_IsIrreducible.lim p).2 _).mpr ⟨_, this⟩
    · rw [impl_IsIrreducible.d_eq, if_neg h, impl_IsIrreducible.j0d_eq, if_pos (by simp; omega), irrB_big (.inr (by omega))]
theorem irrB_mem {p : Int} (h : irrB p = true) : p ∈ irrs := by simpa [irrB] using h
theorem i_deg_irr {p : Int} (h : irrB p = true) : ∀ m, ((m, p) ∈ fields14) = (impl_degreeOf.d p = some m) := by
  have h := irrB_mem h
  have key : ∀ p ∈ irrs, ∃ m, impl_degreeOf.f 80 p = some m ∧ (m, p) ∈ fields14 ∧ ∀ m', (m', p) ∈ fields14 → m' = m := by
    have : ∀ p ∈ irrs, ∃ m ∈ [1, 2, 3, 4, 5], impl_degreeOf.f 80 p = some m ∧ (m, p) ∈ fields14 ∧ ∀ f ∈ fields14, f.2 = p → f.1 = m := by decide +kernel
    intro p hp
    obtain ⟨m, _, a, b, c⟩ := this p hp
    exact ⟨m, a, b, fun m' h' => c (m', p) h' rfl⟩
  intro m
  obtain ⟨m0, a, b, c⟩ := key p h
  have e : impl_degreeOf.d p = some m0 := ((impl_degreeOf.lim p).2 _).mpr ⟨_, a⟩
  rw [e]
  apply propext
  exact ⟨fun h => by rw [c m h], fun h => by cases h; exact b⟩
theorem deg_some {p : Int} (h : irrB p = true) : ∃ m, (m, p) ∈ fields14 := by
  have : ∀ p ∈ irrs, ∃ m ∈ [1, 2, 3, 4, 5], ((m, p) : Int × Int) ∈ fields14 := by decide +kernel
  obtain ⟨m, _, hm⟩ := this p (irrB_mem h)
  exact ⟨m, hm⟩
theorem fields_facts : ∀ f ∈ fields14, (1 ≤ f.1 ∧ f.1 ≤ 5) ∧ irrB f.2 = true := by decide +kernel
theorem valid_facts {m p : Int} (h : validB m p = true) : 1 ≤ m ∧ m ≤ 5 ∧ irrB p = true := by
  have h' : (m, p) ∈ fields14 := by simpa [validB] using h
  have := fields_facts _ h'
  exact ⟨this.1.1, this.1.2, this.2⟩
theorem validB_eq {m p : Int} : validB m p = decide ((m, p) ∈ fields14) := by simp [validB, List.contains_eq_mem]
theorem i_ValidField_v (m p : Int) : impl_ValidField.d m p = some (validB m p) := by
  rw [impl_ValidField.d_eq]
  unfold impl_within.f
  by_cases h1 : m ≥ 1
  · rw [if_pos h1, bind_some']
    by_cases h5 : m ≤ 5
    · rw [if_pos (by simpa using h5), i_IsIrreducible_v, bind_some']
      by_cases hi : irrB p = true
      · rw [if_pos hi]
        obtain ⟨m0, hm0⟩ := deg_some hi
        rw [i_deg_irr hi] at hm0
        rw [hm0, bind_some', validB_eq]
        have := i_deg_irr hi m
        rw [hm0] at this
        congr 1
        simp only [this, Option.some.injEq]
        by_cases e : m0 = m
        · simp [e]
        · simp [e]
      · rw [if_neg hi]
        congr 1
        have : ¬ validB m p = true := fun h => hi (valid_facts h).2.2
        exact (Bool.eq_false_iff.mpr this).symm
    · rw [if_neg (by simpa using h5)]
      have : ¬ validB m p = true := fun h => h5 (valid_facts h).2.1
      rw [Bool.eq_false_iff.mpr this]
  · rw [if_neg h1, bind_some', if_neg (by decide)]
    have : ¬ validB m p = true := fun h => h1 (valid_facts h).1
    rw [Bool.eq_false_iff.mpr this]
end Go.Proofs.Ytbalkaphibnpcaa.P
end
section
namespace Go.Proofs.Ytbalkaphibnpcaa.P
open Go.RowKit Go.Proofs.YtbalkaphibnpcaaW.PrintWords Go.Proofs.YtbalkaphibnpcaaW.PrintLast Go.Proofs.YtbalkaphibnpcaaW.PrintMore
set_option linter.unusedVariables false
set_option linter.unusedSimpArgs false
/-- a walk upward that writes every place of a list -/
theorem map_gen {α R : Type} {F : List α → Int → R} {n : Nat} {g : Nat → α → α} {r : R} (Q : Nat → α → Prop) (l : List α) (hn : l.length = n)
    (hq : ∀ i, (h : i < l.length) → Q i l[i]) (hg : ∀ i x, Q i x → Q i (g i x))
    (heq : ∀ i : Nat, ∀ a : List α, (hi : i < a.length) → a.length = n → (∀ j, (h : j < a.length) → Q j a[j]) → (∀ j, i ≤ j → (h : j < a.length) → (h' : j < l.length) → a[j] = l[j]) →
      (∀ j, j < i → (h : j < a.length) → (h' : j < l.length) → a[j] = g j l[j]) → F a (i : Int) = F (a.set i (g i (a[i]'hi))) ((i + 1 : Nat) : Int))
    (hend : F (l.mapIdx g) (n : Int) = r) : F l 0 = r := by
  have key : ∀ i, i ≤ n → F (l.mapIdx fun j x => if j < i then g j x else x) (i : Int) = r := by
    apply down
    · have : (l.mapIdx fun j x => if j < n then g j x else x) = l.mapIdx g := by
        apply List.ext_getElem
        · simp
        · intro j h1 h2
          simp only [List.getElem_mapIdx]
          rw [if_pos (by simp at h1; omega)]
      rw [this]; exact hend
    · intro i hi e
      have hil : i < l.length := by omega
      rw [heq i _ (by simp; omega) (by simp; omega) ?_ ?_ ?_, ← e]
      · congr 1
        apply List.ext_getElem
        · simp
        · intro j h1 h2
          simp only [List.getElem_set, List.getElem_mapIdx]
          by_cases c : i = j
          · subst c; simp
          · rw [if_neg c]
            by_cases c2 : j < i
            · simp [c2, show j < i + 1 by omega]
            · simp [c2, show ¬ j < i + 1 by omega]
      · intro j h
        simp only [List.length_mapIdx] at h
        simp only [List.getElem_mapIdx]
        split
        · exact hg j _ (hq j h)
        · exact hq j h
      · intro j hij h h'
        simp only [List.getElem_mapIdx]
        rw [if_neg (by omega)]
      · intro j hij h h'
        simp only [List.getElem_mapIdx]
        rw [if_pos hij]
  have := key 0 (by omega)
  have e : (l.mapIdx fun j x => if j < 0 then g j x else x) = l := by
    apply List.ext_getElem
    · simp
    · intro j h1 h2; simp
  rw [e] at this
  exact this
end Go.Proofs.Ytbalkaphibnpcaa.P
end
section
namespace Go.Proofs.Ytbalkaphibnpcaa.P
open Go.RowKit Go.Proofs.YtbalkaphibnpcaaW.PrintWords Go.Proofs.YtbalkaphibnpcaaW.PrintLast Go.Proofs.YtbalkaphibnpcaaW.PrintMore
set_option linter.unusedVariables false
set_option linter.unusedSimpArgs false
theorem rL2 {l : List (List Int)} {i : Nat} (h : i < l.length) : rd_L1 l (i : Int) = l[i] := by simp [rd_L1, List.getD, h]
theorem szInt64S_n {l : List Int} {n : Int} (h0 : 0 ≤ n) (hn : n ≤ 1048576) (hm : l.length ≤ maxLen) : laws_szInt64S.f l n = some (if (l.length : Int) ≤ n then n - l.length else -1) := by
  unfold laws_szInt64S.f
  unfold maxLen at hm
  rw [wr (by omega) (by omega)]
  by_cases h : (l.length : Int) ≤ n
  · rw [if_neg (by omega), if_pos h]
  · rw [if_pos (by omega), if_neg h]
theorem szInt64SS_v {l : List (List Int)} {s : Int} (s0 : 0 ≤ s) (s1 : s ≤ 1048576) (hm : l.length ≤ maxLen) (hx : ∀ x ∈ l, x.length ≤ maxLen) : ∃ t, laws_szInt64SS.d l s = some t ∧ t ≤ 1048576 ∧ (0 ≤ t → l.length ≤ 1048576 ∧ ∀ x ∈ l, x.length ≤ 1048576) := by
  unfold maxLen at hm
  rw [laws_szInt64SS.d_eq, wr (by omega) (by omega)]
  by_cases h : (l.length : Int) ≤ s
  · rw [if_neg (by omega)]
    have key : ∀ i, i ≤ l.length → ∀ n : Int, 0 ≤ n → n ≤ 1048576 → ∃ t, laws_szInt64SS.l0d l n (i : Int) = some t ∧ t ≤ 1048576 ∧ (0 ≤ t → ∀ x ∈ l.drop i, x.length ≤ 1048576) := by
      apply down
      · intro n h0 h1
        refine ⟨n, ?_, h1, fun _ x hx => ?_⟩
        · rw [laws_szInt64SS.l0d_eq, if_neg (by omega)]
        · rw [List.drop_length] at hx; cases hx
      · intro i hi ih n h0 h1
        rw [laws_szInt64SS.l0d_eq, if_pos (by omega), if_pos (by omega), rL2 hi, szInt64S_n h0 h1 (hx _ (List.getElem_mem hi)), bind_some', wrS hi (by omega)]
        by_cases c : (l[i].length : Int) ≤ n
        · rw [if_pos c, if_neg (by omega)]
          obtain ⟨t, e, e1, ht⟩ := ih (n - l[i].length) (by omega) (by omega)
          refine ⟨t, e, e1, fun z x hx => ?_⟩
          rw [List.drop_eq_getElem_cons hi] at hx
          rcases List.mem_cons.mp hx with rfl | hx
          · omega
          · exact ht z x hx
        · rw [if_neg c, if_pos (by decide)]
          exact ⟨-1, rfl, by decide, fun z => absurd z (by decide)⟩
    obtain ⟨t, e, e1, ht⟩ := key 0 (by omega) (s - l.length) (by omega) (by omega)
    exact ⟨t, e, e1, fun z => ⟨by omega, by simpa using ht z⟩⟩
  · rw [if_pos (by omega)]
    exact ⟨-1, rfl, by decide, fun z => absurd z (by decide)⟩
theorem toInt64SS_v {l : List (List Int)} (h : l.length ≤ 1048576) (hx : ∀ x ∈ l, x.length ≤ 1048576) : laws_toInt64SS.d l = some l := by
  rw [laws_toInt64SS.d_eq, if_pos (by omega), if_pos (by omega), Int.toNat_natCast]
  refine map_gen (F := fun a i => laws_toInt64SS.l0d l a i) (n := l.length) (g := fun i _ => l.getD i []) (fun _ _ => True) _ (by simp) (fun _ _ => trivial) (fun _ _ _ => trivial) ?_ ?_
  · intro i a hi ha _ _ _
    show laws_toInt64SS.l0d l a (i : Int) = laws_toInt64SS.l0d l (a.set i (l.getD i [])) ((i + 1 : Nat) : Int)
    have hi' : i < l.length := by omega
    have := hx _ (List.getElem_mem hi')
    rw [laws_toInt64SS.l0d_eq, if_pos (by omega), if_pos (by omega), rL2 hi', toInt64S_v (by omega), bind_some', if_pos (by omega), Int.toNat_natCast, wrS hi' (by omega)]
    congr 2
    simp [List.getD, hi']
  · show laws_toInt64SS.l0d l _ (l.length : Int) = _
    rw [laws_toInt64SS.l0d_eq, if_neg (by omega)]
    congr 1
    apply List.ext_getElem
    · simp
    · intro i h1 h2
      simp at h1
      simp [List.getD, h1]
theorem eqInt64SS_self {l : List (List Int)} (h : l.length ≤ 1048576) (hx : ∀ x ∈ l, x.length ≤ 1048576) : laws_eqInt64SS.d l l = some true := by
  rw [laws_eqInt64SS.d_eq, if_pos rfl]
  have key : ∀ i, i ≤ l.length → laws_eqInt64SS.l0d l l (i : Int) = some true := by
    apply down
    · rw [laws_eqInt64SS.l0d_eq, if_neg (by omega)]
    · intro i hi e
      have := hx _ (List.getElem_mem hi)
      rw [laws_eqInt64SS.l0d_eq, if_pos (by omega), if_pos (by omega), if_pos (by omega), rL2 hi, eqInt64S_self (by omega), bind_some', if_pos rfl, wrS hi (by omega), e]
  exact key 0 (by omega)
end Go.Proofs.Ytbalkaphibnpcaa.P
end
section
namespace Go.Proofs.Ytbalkaphibnpcaa.P
open Go.RowKit Go.Proofs.YtbalkaphibnpcaaW.PrintWords Go.Proofs.YtbalkaphibnpcaaW.PrintLast Go.Proofs.YtbalkaphibnpcaaW.PrintMore
set_option linter.unusedVariables false
set_option linter.unusedSimpArgs false
/-- a number of m places -/
def elemB (m x : Int) : Bool := decide (0 ≤ x) && decide (x < 2 ^ m.toNat)
end Go.Proofs.Ytbalkaphibnpcaa.P
end
section
namespace Go.Proofs.Ytbalkaphibnpcaa.P
open Go.RowKit Go.Proofs.YtbalkaphibnpcaaW.PrintWords Go.Proofs.YtbalkaphibnpcaaW.PrintLast Go.Proofs.YtbalkaphibnpcaaW.PrintMore
set_option linter.unusedVariables false
set_option linter.unusedSimpArgs false
theorem s_irr_small : ∀ i, i < 62 → spec_IsIrreducible.f 80 (2 + (i : Nat)) = some (irrB (2 + (i : Nat))) := by decide +kernel
theorem s_IsIrreducible_v (p : Int) : spec_IsIrreducible.d p = some (irrB p) := by
  by_cases h : p < 64
  · by_cases h2 : 2 ≤ p
    · have := of_range (P := fun p => spec_IsIrreducible.f 80 p = some (irrB p)) 62 2 s_irr_small p (by omega) (by omega)
      exact ((spec_IsIrreducible.lim p).2 _).mpr ⟨_, this⟩
    · by_cases h3 : p = 1
      · subst h3; exact ((spec_IsIrreducible.lim 1).2 _).mpr ⟨80, by decide +kernel⟩
      · rw [spec_IsIrreducible.d_eq, if_neg (by omega), irrB_big (.inl (by omega))]
  · rw [spec_IsIrreducible.d_eq, if_pos (by omega), if_neg h, irrB_big (.inr (by omega))]
theorem s_deg_irr {p : Int} (h : irrB p = true) : ∀ m, ((m, p) ∈ fields14) = (spec_l01Degree.d p = some m) := by
  have h := irrB_mem h
  have key : ∀ p ∈ irrs, ∃ m, spec_l01Degree.f 80 p = some m ∧ (m, p) ∈ fields14 ∧ ∀ m', (m', p) ∈ fields14 → m' = m := by
    have : ∀ p ∈ irrs, ∃ m ∈ [1, 2, 3, 4, 5], spec_l01Degree.f 80 p = some m ∧ (m, p) ∈ fields14 ∧ ∀ f ∈ fields14, f.2 = p → f.1 = m := by decide +kernel
    intro p hp
    obtain ⟨m, _, a, b, c⟩ := this p hp
    exact ⟨m, a, b, fun m' h' => c (m', p) h' rfl⟩
  intro m
  obtain ⟨m0, a, b, c⟩ := key p h
  have e : spec_l01Degree.d p = some m0 := ((spec_l01Degree.lim p).2 _).mpr ⟨_, a⟩
  rw [e]
  apply propext
  exact ⟨fun h => by rw [c m h], fun h => by cases h; exact b⟩
theorem s_l01Ok_v (m p : Int) : spec_l01Ok.d m p = some (validB m p) := by
  rw [spec_l01Ok.d_eq]
  unfold spec_l00In.f
  by_cases h1 : m ≥ 1
  · rw [if_pos h1, bind_some']
    by_cases h5 : m ≤ 5
    · rw [if_pos (by simpa using h5), s_IsIrreducible_v, bind_some']
      by_cases hi : irrB p = true
      · rw [if_pos hi]
        obtain ⟨m0, hm0⟩ := deg_some hi
        rw [s_deg_irr hi] at hm0
        rw [hm0, bind_some', validB_eq]
        have := s_deg_irr hi m
        rw [hm0] at this
        congr 1
        simp only [this, Option.some.injEq]
        by_cases e : m0 = m
        · simp [e]
        · simp [e]
      · rw [if_neg hi]
        congr 1
        have : ¬ validB m p = true := fun h => hi (valid_facts h).2.2
        exact (Bool.eq_false_iff.mpr this).symm
    · rw [if_neg (by simpa using h5)]
      have : ¬ validB m p = true := fun h => h5 (valid_facts h).2.1
      rw [Bool.eq_false_iff.mpr this]
  · rw [if_neg h1, bind_some', if_neg (by decide)]
    have : ¬ validB m p = true := fun h => h1 (valid_facts h).1
    rw [Bool.eq_false_iff.mpr this]
end Go.Proofs.Ytbalkaphibnpcaa.P
end
section
namespace Go.Proofs.Ytbalkaphibnpcaa.P
open Go.RowKit Go.Proofs.YtbalkaphibnpcaaW.PrintWords Go.Proofs.YtbalkaphibnpcaaW.PrintLast Go.Proofs.YtbalkaphibnpcaaW.PrintMore
set_option linter.unusedVariables false
set_option linter.unusedSimpArgs false
theorem m_cases {m p : Int} (h : validB m p = true) : m = 1 ∨ m = 2 ∨ m = 3 ∨ m = 4 ∨ m = 5 := by
  have := valid_facts h; omega
theorem i_count_v {m p : Int} (h : validB m p = true) (q : Int) : impl_Field_count.f m q = some (2 ^ m.toNat) := by
  rcases m_cases h with rfl | rfl | rfl | rfl | rfl <;> rfl
theorem s_l01Size_v {m p : Int} (h : validB m p = true) (q : Int) : spec_l01Size.f m q = some (2 ^ m.toNat) := by
  rcases m_cases h with rfl | rfl | rfl | rfl | rfl <;> rfl
theorem pow_bound {m p : Int} (h : validB m p = true) : (2 : Int) ≤ 2 ^ m.toNat ∧ (2 : Int) ^ m.toNat ≤ 32 := by
  rcases m_cases h with rfl | rfl | rfl | rfl | rfl <;> decide
theorem i_has_1_v {m p : Int} (h : validB m p = true) (q x : Int) : impl_Field_has_1.f x m q = some (!(elemB m x)) := by
  unfold impl_Field_has_1.f impl_within.f elemB
  have hb := pow_bound h
  rw [i_count_v h, bind_some', wr (by omega) (by omega)]
  by_cases c : 0 ≤ x
  · rw [if_pos (by omega), bind_some']
    simp only [decide_eq_true c, Bool.true_and]
    congr 2
    apply decide_eq_decide.mpr; omega
  · rw [if_neg (by omega), bind_some']
    simp only [decide_eq_false c, Bool.false_and]
theorem i_has_v {m p : Int} (h : validB m p = true) (q : Int) {l : List Int} (hl : l.length ≤ 17592186044416) : impl_Field_has.d m q l = some (l.all (elemB m)) := by
  rw [impl_Field_has.d_eq, slices_ContainsFunc_int64_int64_AT_impl_Field_has_1.d_eq, slices_IndexFunc_int64_int64_AT_impl_Field_has_1.d_eq]
  obtain ⟨v, e, c, _⟩ := index_gen (F := fun i => slices_IndexFunc_int64_int64_AT_impl_Field_has_1.l0d l (l.length : Int) i m q) (n := l.length) (q := fun i => !(elemB m (rd l (i : Int))))
    (by show slices_IndexFunc_int64_int64_AT_impl_Field_has_1.l0d l (l.length : Int) (l.length : Int) m q = _
        rw [slices_IndexFunc_int64_int64_AT_impl_Field_has_1.l0d_eq, if_neg (by omega)])
    (by intro i hi
        show slices_IndexFunc_int64_int64_AT_impl_Field_has_1.l0d l (l.length : Int) (i : Int) m q = _
        rw [slices_IndexFunc_int64_int64_AT_impl_Field_has_1.l0d_eq, if_pos (by omega), if_pos (by omega), if_pos (by omega), i_has_1_v h, bind_some', wrS hi hl])
  have e' : slices_IndexFunc_int64_int64_AT_impl_Field_has_1.l0d l (l.length : Int) 0 m q = some v := e
  rw [e', bind_some', bind_some', c, Bool.not_not]
  congr 1
  rw [← all_get]
  apply decide_eq_decide.mpr
  simp only [Bool.not_eq_false']
end Go.Proofs.Ytbalkaphibnpcaa.P
end
section
namespace Go.Proofs.Ytbalkaphibnpcaa.P
open Go.RowKit Go.Proofs.YtbalkaphibnpcaaW.PrintWords Go.Proofs.YtbalkaphibnpcaaW.PrintLast Go.Proofs.YtbalkaphibnpcaaW.PrintMore
set_option linter.unusedVariables false
set_option linter.unusedSimpArgs false
theorem s_l04Elements_v {m p : Int} (h : validB m p = true) (q : Int) {l : List Int} (hl : l.length ≤ 17592186044416) : spec_l04Elements.d m q l = some (l.all (elemB m)) := by
  have hb := pow_bound h
  rw [spec_l04Elements.d_eq]
  have := all_gen (F := fun i => spec_l04Elements.l0d l i m q) (n := l.length) (q := fun i => elemB m (rd l (i : Int)))
    (by show spec_l04Elements.l0d l (l.length : Int) m q = _
        rw [spec_l04Elements.l0d_eq, if_neg (by omega)])
    (by intro i hi
        show spec_l04Elements.l0d l (i : Int) m q = _
        have e : spec_l00In.f (rd l (i : Int)) 0 (2 ^ m.toNat - 1) = some (elemB m (rd l (i : Int))) := by
          unfold spec_l00In.f elemB
          by_cases c : rd l (i : Int) ≥ 0
          · rw [if_pos c]
            simp only [decide_eq_true (show 0 ≤ rd l (i : Int) from c), Bool.true_and]
            congr 1
            apply decide_eq_decide.mpr; omega
          · rw [if_neg c]
            simp only [decide_eq_false (show ¬ 0 ≤ rd l (i : Int) from c), Bool.false_and]
        rw [spec_l04Elements.l0d_eq, if_pos (by omega), if_pos (by omega), s_l01Size_v h, bind_some', wr (by omega) (by omega), e, bind_some', wrS hi hl])
  have this' : spec_l04Elements.l0d l 0 m q = some (decide (∀ i, i < l.length → elemB m (rd l (i : Int)) = true)) := this
  rw [this']
  congr 1
  exact all_get
end Go.Proofs.Ytbalkaphibnpcaa.P
end
section
namespace Go.Proofs.Ytbalkaphibnpcaa.P
open Go.RowKit Go.Proofs.YtbalkaphibnpcaaW.PrintWords Go.Proofs.YtbalkaphibnpcaaW.PrintLast Go.Proofs.YtbalkaphibnpcaaW.PrintMore
set_option linter.unusedVariables false
set_option linter.unusedSimpArgs false
theorem in_s (a b c : Int) : spec_l00In.f a b c = some (decide (b ≤ a ∧ a ≤ c)) := by
  unfold spec_l00In.f
  by_cases h : a ≥ b
  · rw [if_pos h]; congr 1; apply decide_eq_decide.mpr; omega
  · rw [if_neg h]; congr 1; exact (decide_eq_false (by omega)).symm
theorem in_i (a b c : Int) : impl_within.f a b c = some (decide (b ≤ a ∧ a ≤ c)) := in_s a b c
theorem rises2 (a b hi : Int) : spec_l00Rises.d [a, b] 0 hi = some (decide ((0 ≤ a ∧ a ≤ hi) ∧ (0 ≤ b ∧ b ≤ hi) ∧ a < b)) := by
  rw [spec_l00Rises.d_eq, spec_l00Rises.l0d_eq, if_pos (by simp), if_pos (by omega), in_s, bind_some']
  show (if decide (0 ≤ a ∧ a ≤ hi) = true then _ else _) = _
  by_cases c1 : 0 ≤ a ∧ a ≤ hi
  · rw [if_pos (by simpa using c1), if_neg (by omega), spec_l00Rises.l0d_eq, show wrap64 ((0 : Int) + 1) = 1 from by rw [wr (by omega) (by omega)]; rfl, if_pos (by simp), if_pos (by omega), in_s, bind_some']
    show (if decide (0 ≤ b ∧ b ≤ hi) = true then _ else _) = _
    by_cases c2 : 0 ≤ b ∧ b ≤ hi
    · rw [if_pos (by simpa using c2), if_pos (by omega), show wrap64 ((1 : Int) - 1) = 0 from by rw [wr (by omega) (by omega)]; rfl, if_pos (by omega), if_pos (by simp)]
      show (if a ≥ b then some false else _) = _
      by_cases c3 : a ≥ b
      · rw [if_pos c3]; congr 1; exact (decide_eq_false (by omega)).symm
      · rw [if_neg c3, spec_l00Rises.l0d_eq, show wrap64 ((1 : Int) + 1) = 2 from by rw [wr (by omega) (by omega)]; rfl, if_neg (by simp)]; congr 1; exact (decide_eq_true ⟨c1, c2, by omega⟩).symm
    · rw [if_neg (by simpa using c2)]; congr 1; exact (decide_eq_false (fun h => c2 h.2.1)).symm
  · rw [if_neg (by simpa using c1)]; congr 1; exact (decide_eq_false (fun h => c1 h.1)).symm
theorem two_get {l : List Int} (h : (l.length : Int) = 2) : ∃ a b, l = [a, b] := by
  match l, h with
  | [a, b], _ => exact ⟨a, b, rfl⟩
  | [], h => simp at h
  | [a], h => simp at h
  | a :: b :: c :: t, h => simp at h; omega
theorem L2_get {l : List (List Int)} {i : Nat} (h : i < l.length) : rd_L1 l (i : Int) = l[i] := by simp [rd_L1, List.getD, h]
/-- the edges into a node: both sides have the same list -/
theorem into_both (m p N M : Int) {E C : List (List Int)} (hE : E.length ≤ 14) (h2 : ∀ i, i < E.length → ((rd_L1 E (i : Int)).length : Int) = 2) (v : Int) :
    ∃ L : List Int, L.length ≤ 14 ∧ spec_l07Into.d m p N M E C v = some L ∧ impl_Net_into.d m p N M E C v = some L := by
  have key : ∀ i, i ≤ E.length → ∀ acc : List Int, acc.length ≤ i → ∃ L : List Int, L.length ≤ 14 ∧ spec_l07Into.l0d v acc (i : Int) m p N M E C = some L ∧ impl_Net_into.l0d v acc E (E.length : Int) (i : Int) = some L := by
    apply down
    · intro acc ha
      exact ⟨acc, by omega, by rw [spec_l07Into.l0d_eq, if_neg (by omega)], by rw [impl_Net_into.l0d_eq, if_neg (by omega)]⟩
    · intro i hi ih acc ha
      have h1 := h2 i hi
      have s1 : spec_l07Into.l0d v acc (i : Int) m p N M E C = if rd (rd_L1 E (i : Int)) 1 = v then spec_l07Into.l0d v (acc ++ [(i : Int)]) ((i + 1 : Nat) : Int) m p N M E C else spec_l07Into.l0d v acc ((i + 1 : Nat) : Int) m p N M E C := by
        rw [spec_l07Into.l0d_eq, if_pos (by omega), if_pos (by omega), if_pos (by omega), wrS hi (by omega), if_pos (show acc.length < 17592186044416 by omega)]
      have s2 : impl_Net_into.l0d v acc E (E.length : Int) (i : Int) = if rd (rd_L1 E (i : Int)) 1 = v then impl_Net_into.l0d v (acc ++ [(i : Int)]) E (E.length : Int) ((i + 1 : Nat) : Int) else impl_Net_into.l0d v acc E (E.length : Int) ((i + 1 : Nat) : Int) := by
        rw [impl_Net_into.l0d_eq, if_pos (by omega), if_pos (by omega), if_pos (by omega), if_pos (by omega), wrS hi (by omega), if_pos (show acc.length < 17592186044416 by omega)]
      rw [s1, s2]
      by_cases c : rd (rd_L1 E (i : Int)) 1 = v
      · rw [if_pos c, if_pos c]
        exact ih (acc ++ [(i : Int)]) (by simp; omega)
      · rw [if_neg c, if_neg c]
        exact ih acc (by omega)
  rw [spec_l07Into.d_eq, impl_Net_into.d_eq]
  exact key 0 (by omega) [] (by simp)
theorem has_both (m p N M : Int) {E C : List (List Int)} (hE : E.length ≤ 14) (h2 : ∀ i, i < E.length → ((rd_L1 E (i : Int)).length : Int) = 2) (v : Int) :
    ∃ t : Int, spec_l07Has.d m p N M E C v = some t ∧ impl_Net_has.d m p N M E C v = some t := by
  rw [spec_l07Has.d_eq, impl_Net_has.d_eq]
  by_cases c : v = 0
  · rw [if_pos c, if_pos c]; exact ⟨_, rfl, rfl⟩
  · rw [if_neg c, if_neg c]
    obtain ⟨L, _, e1, e2⟩ := into_both m p N M (C := C) hE h2 v
    rw [e1, e2]
    exact ⟨_, rfl, rfl⟩
theorem net_both (m p N M : Int) {E C : List (List Int)} (hC : ∀ x ∈ C, x.length ≤ 1048576) :
    ∃ b : Bool, spec_l07Ok.d m p N M E C = some b ∧ impl_ValidNet.d m p N M E C = some b := by
  have no : ∃ b : Bool, spec_l07Ok.j0d true m p N M E C = some b ∧ impl_ValidNet.j0d true m p N M E C = some b := ⟨false, by rw [spec_l07Ok.j0d_eq, if_pos rfl], by rw [impl_ValidNet.j0d_eq, if_pos rfl]⟩
  rw [spec_l07Ok.d_eq, impl_ValidNet.d_eq, s_l01Ok_v, i_ValidField_v, bind_some', bind_some']
  by_cases hv : validB m p = true
  · rw [if_pos hv, if_pos hv, in_s, in_i, bind_some', bind_some']
    by_cases hN : 2 ≤ N ∧ N ≤ 8
    · rw [if_pos (decide_eq_true hN), if_pos (decide_eq_true hN), in_s, in_i, bind_some', bind_some']
      by_cases hM : 1 ≤ M ∧ M ≤ 3
      · rw [if_pos (decide_eq_true hM), if_pos (decide_eq_true hM)]
        by_cases hE : (E.length : Int) > 14
        · rw [if_pos hE, if_pos hE]; exact no
        · rw [if_neg hE, if_neg hE]
          by_cases hL : C.length = E.length
          · have hb : ((C.length : Int) != (E.length : Int)) = false := by simp [hL]
            rw [hb, spec_l07Ok.j0d_eq, impl_ValidNet.j0d_eq, if_neg (by decide), if_neg (by decide)]
            -- the second loop
            have second : (∀ i, i < E.length → ((rd_L1 E (i : Int)).length : Int) = 2) → ∃ b : Bool, spec_l07Ok.l1d 0 m p N M E C = some b ∧ impl_ValidNet.l1d C (C.length : Int) 0 m p N M E C = some b := by
              intro h2
              have key : ∀ i, i ≤ C.length → ∃ b : Bool, spec_l07Ok.l1d (i : Int) m p N M E C = some b ∧ impl_ValidNet.l1d C (C.length : Int) (i : Int) m p N M E C = some b := by
                apply down
                · exact ⟨true, by rw [spec_l07Ok.l1d_eq, if_neg (by omega)], by rw [impl_ValidNet.l1d_eq, if_neg (by omega)]⟩
                · intro i hi ih
                  have h1 := h2 i (by omega)
                  obtain ⟨t, e1, e2⟩ := has_both m p N M (C := C) (by omega) h2 (rd (rd_L1 E (i : Int)) 0)
                  have hl : (rd_L1 C (i : Int)).length ≤ 17592186044416 := by rw [L2_get hi]; have := hC _ (List.getElem_mem hi); omega
                  have s1 : spec_l07Ok.l1d (i : Int) m p N M E C = if ((rd_L1 C (i : Int)).length : Int) = t then (if (rd_L1 C (i : Int)).all (elemB m) = true then spec_l07Ok.l1d ((i + 1 : Nat) : Int) m p N M E C else some false) else some false := by
                    rw [spec_l07Ok.l1d_eq, if_pos (by omega), if_pos (by omega), if_pos (by omega), if_pos (by omega), e1, bind_some', s_l04Elements_v hv p hl, bind_some', wrS hi (by omega)]
                  have s2 : impl_ValidNet.l1d C (C.length : Int) (i : Int) m p N M E C = if ((rd_L1 C (i : Int)).length : Int) = t then (if (rd_L1 C (i : Int)).all (elemB m) = true then impl_ValidNet.l1d C (C.length : Int) ((i + 1 : Nat) : Int) m p N M E C else some false) else some false := by
                    rw [impl_ValidNet.l1d_eq, if_pos (by omega), if_pos (by omega), if_pos (by omega)]
                    unfold impl_size_int64_71.f
                    rw [bind_some', if_pos (by omega), if_pos (by omega), e2, bind_some', i_has_v hv p hl, bind_some', wrS hi (by omega)]
                  rw [s1, s2]
                  by_cases c : ((rd_L1 C (i : Int)).length : Int) = t
                  · rw [if_pos c, if_pos c]
                    by_cases d : (rd_L1 C (i : Int)).all (elemB m) = true
                    · rw [if_pos d, if_pos d]; exact ih
                    · rw [if_neg d, if_neg d]; exact ⟨false, rfl, rfl⟩
                  · rw [if_neg c, if_neg c]; exact ⟨false, rfl, rfl⟩
              exact key 0 (by omega)
            -- the first loop
            have key : ∀ d i, d = E.length - i → i ≤ E.length → (∀ j, j < i → ((rd_L1 E (j : Int)).length : Int) = 2) →
                ∃ b : Bool, spec_l07Ok.l0d (i : Int) m p N M E C = some b ∧ impl_ValidNet.l0d E (E.length : Int) (i : Int) m p N M E C = some b := by
              intro d
              induction d with
              | zero =>
                intro i hd hi hp
                rw [spec_l07Ok.l0d_eq, if_neg (by omega), impl_ValidNet.l0d_eq, if_neg (by omega)]
                exact second fun j hj => hp j (by omega)
              | succ d ih =>
                intro i hd hi hp
                have hi' : i < E.length := by omega
                have s1 := spec_l07Ok.l0d_eq (i : Int) m p N M E C
                rw [if_pos (by omega), if_pos (by omega)] at s1
                have s2 := impl_ValidNet.l0d_eq E (E.length : Int) (i : Int) m p N M E C
                rw [if_pos (by omega), if_pos (by omega), if_pos (by omega)] at s2
                rw [s1, s2]
                clear s1 s2
                by_cases c : ((rd_L1 E (i : Int)).length : Int) = 2
                · have nx : ∃ b : Bool, spec_l07Ok.l0d ((i + 1 : Nat) : Int) m p N M E C = some b ∧ impl_ValidNet.l0d E (E.length : Int) ((i + 1 : Nat) : Int) m p N M E C = some b := by
                    refine ih (i + 1) (by omega) (by omega) fun j hj => ?_
                    by_cases e : j = i
                    · subst e; exact c
                    · exact hp j (by omega)
                  rw [if_pos c, if_pos c, if_pos (show (0 : Int) < ((rd_L1 E (i : Int)).length : Int) by omega), if_pos (show (1 : Int) < ((rd_L1 E (i : Int)).length : Int) by omega)]
                  unfold impl_Net_isNode.f
                  rw [wr (x := N - 1) (by omega) (by omega), wrS hi' (by omega), in_i, in_i, bind_some', bind_some', bind_some', bind_some']
                  obtain ⟨a, b, e⟩ := two_get c
                  rw [e, rises2, bind_some']
                  show ∃ z : Bool, (if decide _ = true then _ else _) = _ ∧ (if decide (0 ≤ a ∧ a ≤ N - 1) = true then (if decide (0 ≤ b ∧ b ≤ N - 1) = true then (if a ≥ b then _ else _) else _) else _) = _
                  by_cases c1 : 0 ≤ a ∧ a ≤ N - 1
                  · by_cases c2 : 0 ≤ b ∧ b ≤ N - 1
                    · by_cases c3 : a < b
                      · rw [if_pos (decide_eq_true ⟨c1, c2, c3⟩), if_pos (decide_eq_true c1), if_pos (decide_eq_true c2), if_neg (show ¬ a ≥ b by omega)]
                        by_cases z : (i : Int) > 0
                        · have hw : wrap64 ((i : Int) - 1) = ((i - 1 : Nat) : Int) := by rw [wr (by omega) (by omega)]; omega
                          have hq := hp (i - 1) (by omega)
                          have a1 : (0 : Int) ≤ ((i - 1 : Nat) : Int) := by omega
                          have a2 : ((i - 1 : Nat) : Int) < (E.length : Int) := by omega
                          have a3 : (0 : Int) < ((rd_L1 E ((i - 1 : Nat) : Int)).length : Int) := by omega
                          rw [if_pos z, if_pos z, hw, if_pos a1, if_pos a2, if_pos a3, if_pos a1, if_pos a2, if_pos a3]
                          show ∃ z : Bool, (if rd (rd_L1 E ((i - 1 : Nat) : Int)) 0 > a then _ else _) = _ ∧ (if a < rd (rd_L1 E ((i - 1 : Nat) : Int)) 0 then _ else _) = _
                          by_cases c4 : a < rd (rd_L1 E ((i - 1 : Nat) : Int)) 0
                          · rw [if_pos c4, if_pos c4]; exact ⟨false, rfl, rfl⟩
                          · rw [if_neg c4, if_neg c4]; exact nx
                        · rw [if_neg z, if_neg z]; exact nx
                      · rw [if_neg (by simp; omega), if_pos (decide_eq_true c1), if_pos (decide_eq_true c2), if_pos (show a ≥ b by omega)]; exact ⟨false, rfl, rfl⟩
                    · rw [if_neg (fun h => c2 (of_decide_eq_true h).2.1), if_pos (decide_eq_true c1), if_neg (fun h => c2 (of_decide_eq_true h))]; exact ⟨false, rfl, rfl⟩
                  · rw [if_neg (fun h => c1 (of_decide_eq_true h).1), if_neg (fun h => c1 (of_decide_eq_true h))]; exact ⟨false, rfl, rfl⟩
                · rw [if_neg c, if_neg c]; exact ⟨false, rfl, rfl⟩
            exact key _ 0 rfl (by omega) fun j hj => absurd hj (by omega)
          · have hb : ((C.length : Int) != (E.length : Int)) = true := by simp; omega
            rw [hb]; exact no
      · rw [if_neg (fun h => hM (of_decide_eq_true h)), if_neg (fun h => hM (of_decide_eq_true h))]; exact no
    · rw [if_neg (fun h => hN (of_decide_eq_true h)), if_neg (fun h => hN (of_decide_eq_true h))]; exact no
  · rw [if_neg hv, if_neg hv]; exact no
end Go.Proofs.Ytbalkaphibnpcaa.P
end
section
namespace Go.Proofs.Ytbalkaphibnpcaa.P
open Go.RowKit Go.Proofs.YtbalkaphibnpcaaW.PrintWords Go.Proofs.YtbalkaphibnpcaaW.PrintLast Go.Proofs.YtbalkaphibnpcaaW.PrintMore
set_option linter.unusedVariables false
set_option linter.unusedSimpArgs false
/-- the rows that marks from a on make of these -/
def tally : List (List Int) → Int → List (List Int) × Int
  | [], a => ([], a)
  | x :: l, a => (iota a x.length :: (tally l (a + x.length)).1, (tally l (a + x.length)).2)
theorem tally_length (l : List (List Int)) : ∀ a, (tally l a).1.length = l.length := by
  induction l with
  | nil => intro a; rfl
  | cons x l ih => intro a; simp [tally, ih]
theorem tally_le {l : List (List Int)} {B : Nat} (hx : ∀ x ∈ l, x.length ≤ B) : ∀ a, a ≤ (tally l a).2 ∧ (tally l a).2 ≤ a + (l.length * B : Nat) := by
  induction l with
  | nil => intro a; simp [tally]
  | cons x l ih =>
    intro a
    have h1 := ih (fun y hy => hx y (List.mem_cons_of_mem _ hy)) (a + x.length)
    have h2 := hx x List.mem_cons_self
    have e : ((x :: l).length * B : Nat) = l.length * B + B := by rw [List.length_cons, Nat.succ_mul]
    show a ≤ (tally l (a + x.length)).2 ∧ (tally l (a + x.length)).2 ≤ a + ((x :: l).length * B : Nat)
    rw [e]
    omega
theorem tally_snoc (l : List (List Int)) (x : List Int) : ∀ a, tally (l ++ [x]) a = ((tally l a).1 ++ [iota (tally l a).2 x.length], (tally l a).2 + x.length) := by
  induction l with
  | nil => intro a; simp [tally]
  | cons y l ih => intro a; simp [tally, ih]
theorem mkL {l : List (List Int)} {i : Nat} (h : i < l.length) : rd_L1 l (i : Int) = l[i] := by simp [rd_L1, List.getD, h]
theorem markInt64SS_v {l : List (List Int)} {a : Int} (h : l.length ≤ 1048576) (hx : ∀ x ∈ l, x.length ≤ 1048576) (h0 : 0 ≤ a) (h1 : a ≤ 1000000000000000) :
    laws_markInt64SS.d l a = some ((tally l a).2, (tally l a).1) := by
  have key : ∀ i, i ≤ l.length → laws_markInt64SS.l0d ((tally (l.take i) a).1 ++ l.drop i) (tally (l.take i) a).2 (i : Int) = some ((tally l a).2, (tally l a).1) := by
    apply down
    · rw [laws_markInt64SS.l0d_eq, if_neg (by simp [tally_length]), List.take_length, List.drop_length, List.append_nil]
    · intro i hi ih
      have hlt : (tally (l.take i) a).1.length = i := by rw [tally_length, List.length_take]; omega
      have hlen : ((tally (l.take i) a).1 ++ l.drop i).length = l.length := by rw [List.length_append, hlt, List.length_drop]; omega
      have e1 : rd_L1 ((tally (l.take i) a).1 ++ l.drop i) (i : Int) = l[i] := by
        rw [mkL (by omega), List.getElem_append_right (by omega)]
        simp [hlt]
      have b1 := tally_le (l := l.take i) (B := 1048576) (fun x hx' => hx x (List.mem_of_mem_take hx')) a
      have b2 : (l.take i).length * 1048576 ≤ 1048576 * 1048576 := Nat.mul_le_mul_right _ (by rw [List.length_take]; omega)
      have b3 := hx _ (List.getElem_mem hi)
      rw [laws_markInt64SS.l0d_eq, if_pos (by omega), if_pos (by omega), e1, markInt64S_v (by omega) (by omega) (by omega), bind_some', wrS hi (by omega), ← ih, List.take_succ_eq_append_getElem hi, tally_snoc]
      congr 1
      rw [Int.toNat_natCast, List.set_append_right _ _ (by omega), hlt, Nat.sub_self, List.drop_eq_getElem_cons hi, List.set_cons_zero, List.append_assoc]
      rfl
  rw [laws_markInt64SS.d_eq]
  have := key 0 (by omega)
  simpa [tally] using this
theorem tally_big {l : List (List Int)} (h : l.length ≤ 1048576) (hx : ∀ x ∈ l, x.length ≤ 1048576) (a : Int) : a ≤ (tally l a).2 ∧ (tally l a).2 ≤ a + 1099511627776 := by
  have b1 := tally_le (l := l) (B := 1048576) hx a
  have b2 : l.length * 1048576 ≤ 1048576 * 1048576 := Nat.mul_le_mul_right _ h
  omega
end Go.Proofs.Ytbalkaphibnpcaa.P
end
section
namespace Go.Proofs.Ytbalkaphibnpcaa.P
open Go.RowKit Go.Proofs.YtbalkaphibnpcaaW.PrintWords Go.Proofs.YtbalkaphibnpcaaW.PrintLast Go.Proofs.YtbalkaphibnpcaaW.PrintMore
set_option linter.unusedVariables false
set_option linter.unusedSimpArgs false
theorem net_facts (m p N M : Int) {E C : List (List Int)} (h : impl_ValidNet.d m p N M E C = some true) : E.length ≤ 14 ∧ ∀ i, i < E.length → ((rd_L1 E (i : Int)).length : Int) = 2 := by
  rw [impl_ValidNet.d_eq, i_ValidField_v, bind_some'] at h
  have no : impl_ValidNet.j0d true m p N M E C = some true → False := fun z => by rw [impl_ValidNet.j0d_eq, if_pos rfl] at z; cases z
  by_cases hv : validB m p = true
  · rw [if_pos hv, in_i, bind_some'] at h
    by_cases hN : 2 ≤ N ∧ N ≤ 8
    · rw [if_pos (decide_eq_true hN), in_i, bind_some'] at h
      by_cases hM : 1 ≤ M ∧ M ≤ 3
      · rw [if_pos (decide_eq_true hM)] at h
        by_cases hE : (E.length : Int) > 14
        · rw [if_pos hE] at h; exact (no h).elim
        · rw [if_neg hE] at h
          by_cases hL : C.length = E.length
          · have hb : ((C.length : Int) != (E.length : Int)) = false := by simp [hL]
            rw [hb, impl_ValidNet.j0d_eq, if_neg (by decide)] at h
            refine ⟨by omega, ?_⟩
            have key : ∀ n i, n = E.length - i → i ≤ E.length → impl_ValidNet.l0d E (E.length : Int) (i : Int) m p N M E C = some true → ∀ j, i ≤ j → j < E.length → ((rd_L1 E (j : Int)).length : Int) = 2 := by
              intro n
              induction n with
              | zero => intro i hd hi hl j h1 h2; omega
              | succ n ih =>
                intro i hd hi hl
                have hi' : i < E.length := by omega
                rw [impl_ValidNet.l0d_eq, if_pos (by omega), if_pos (by omega), if_pos (by omega)] at hl
                by_cases c : ((rd_L1 E (i : Int)).length : Int) = 2
                · rw [if_pos c, if_pos (show (0 : Int) < ((rd_L1 E (i : Int)).length : Int) by omega), if_pos (show (1 : Int) < ((rd_L1 E (i : Int)).length : Int) by omega), wrS hi' (by omega)] at hl
                  have nx : impl_ValidNet.l0d E (E.length : Int) ((i + 1 : Nat) : Int) m p N M E C = some true := by
                    unfold impl_Net_isNode.f at hl
                    rw [in_i, in_i, bind_some', bind_some', bind_some', bind_some'] at hl
                    by_cases c1 : decide (0 ≤ rd (rd_L1 E (i : Int)) 0 ∧ rd (rd_L1 E (i : Int)) 0 ≤ wrap64 (N - 1)) = true
                    · rw [if_pos c1] at hl
                      by_cases c2 : decide (0 ≤ rd (rd_L1 E (i : Int)) 1 ∧ rd (rd_L1 E (i : Int)) 1 ≤ wrap64 (N - 1)) = true
                      · rw [if_pos c2] at hl
                        by_cases c3 : rd (rd_L1 E (i : Int)) 0 ≥ rd (rd_L1 E (i : Int)) 1
                        · rw [if_pos c3] at hl; cases hl
                        · rw [if_neg c3] at hl
                          by_cases z : (i : Int) > 0
                          · rw [if_pos z] at hl
                            split at hl
                            · split at hl
                              · split at hl
                                · split at hl
                                  · cases hl
                                  · exact hl
                                · cases hl
                              · cases hl
                            · cases hl
                          · rw [if_neg z] at hl; exact hl
                      · rw [if_neg c2] at hl; cases hl
                    · rw [if_neg c1] at hl; cases hl
                  intro j h1 h2
                  by_cases e : j = i
                  · subst e; exact c
                  · exact ih (i + 1) (by omega) (by omega) nx j (by omega) h2
                · rw [if_neg c] at hl; cases hl
            exact fun i hi => key _ 0 rfl (by omega) h i (by omega) hi
          · have hb : ((C.length : Int) != (E.length : Int)) = true := by simp; omega
            rw [hb] at h; exact (no h).elim
      · rw [if_neg (fun z => hM (of_decide_eq_true z))] at h; exact (no h).elim
    · rw [if_neg (fun z => hN (of_decide_eq_true z))] at h; exact (no h).elim
  · rw [if_neg hv] at h; exact (no h).elim
theorem EdgesInto_both (m p N M v : Int) {E C : List (List Int)} (hC : ∀ x ∈ C, x.length ≤ 1048576) : ∃ r : List Int × Int, r.1.length ≤ 14 ∧ spec_EdgesInto.d m p N M E C v = some r ∧ impl_EdgesInto.d m p N M E C v = some r := by
  obtain ⟨b, b1, b2⟩ := net_both m p N M (E := E) hC
  rw [spec_EdgesInto.d_eq, impl_EdgesInto.d_eq, spec_l07Node.d_eq, impl_nodeCode_AT_impl_always.d_eq, b1, b2, bind_some', bind_some']
  cases b with
  | false => exact ⟨([], 1), by simp, rfl, rfl⟩
  | true =>
    obtain ⟨e1, e2⟩ := net_facts m p N M b2
    unfold impl_Net_isNode.f impl_always.f
    rw [if_pos rfl, if_pos rfl, in_s, in_i, bind_some', bind_some', bind_some']
    by_cases c : decide (0 ≤ v ∧ v ≤ wrap64 (N - 1)) = true
    · obtain ⟨L, hL, f1, f2⟩ := into_both m p N M (C := C) e1 e2 v
      rw [if_pos c, if_pos c, bind_some', if_pos rfl, bind_some', if_pos rfl, bind_some', if_pos rfl, f1, f2]
      exact ⟨(L, 0), hL, rfl, rfl⟩
    · rw [if_neg c, if_neg c]
      exact ⟨([], 2), by simp, rfl, rfl⟩
theorem EdgesInto_law (m p N M : Int) (E C : List (List Int)) (v : Int) (h4 : E.length ≤ maxLen) (h5 : ∀ x ∈ E, x.length ≤ maxLen ∧ ∀ y ∈ x, (Lit.int .i64 y).wf = true) (h6 : C.length ≤ maxLen) (h7 : ∀ x ∈ C, x.length ≤ maxLen ∧ ∀ y ∈ x, (Lit.int .i64 y).wf = true) : laws_FnExactEdgesInto.d m p N M E C v = some true := by
  obtain ⟨t, e, t1, ht⟩ := szInt64SS_v (s := 1048576) (by decide) (by decide) h4 fun x hx => (h5 x hx).1
  rw [laws_FnExactEdgesInto.d_eq, laws_szNet.d_eq, e, bind_some']
  by_cases c : t < 0
  · rw [if_pos c, bind_some', if_pos (by decide)]
  · obtain ⟨hE, hE'⟩ := ht (by omega)
    obtain ⟨u, e', u1, hu⟩ := szInt64SS_v (s := t) (by omega) t1 h6 fun x hx => (h7 x hx).1
    rw [if_neg c, e', bind_some']
    by_cases c' : u < 0
    · rw [if_pos c', bind_some', if_pos (by decide)]
    · obtain ⟨hC, hC'⟩ := hu (by omega)
      obtain ⟨⟨R, z⟩, rl, r1, r2⟩ := EdgesInto_both m p N M v (E := E) hC'
      simp only at rl
      have tn : laws_toNet.d m p N M E C = some (m, p, N, M, E, C) := by
        rw [laws_toNet.d_eq, show laws_toField.f m p = some (m, p) from rfl, bind_some', toInt64SS_v hE hE', bind_some', toInt64SS_v hC hC', bind_some']
      have q : laws_eqNet.d m p N M E C m p N M E C = some true := by
        rw [laws_eqNet.d_eq]
        unfold laws_eqField.f
        rw [if_pos rfl, if_pos rfl, bind_some', if_pos rfl, if_pos rfl, if_pos rfl, eqInt64SS_self hE hE', bind_some', if_pos rfl, eqInt64SS_self hC hC', bind_some', if_pos rfl]
      have t2 := tally_big hE hE' 1
      have t3 := tally_big hC hC' (tally E 1).2
      have mn : laws_markNet.d m p N M E C 1 = some ((tally C (tally E 1).2).2, (tally E 1).1, (tally C (tally E 1).2).1) := by
        rw [laws_markNet.d_eq, markInt64SS_v hE hE' (by omega) (by omega), bind_some', markInt64SS_v hC hC' (by omega) (by omega), bind_some']
      have es := eqInt64S_self (a := R) (by omega)
      rw [if_neg c', bind_some', if_neg c', tn, bind_some', r1, bind_some', bind_some', r2, bind_some', es, bind_some', if_pos rfl, laws_FnExactEdgesInto.j0d_eq, if_neg (by simp), tn, bind_some', q, bind_some', if_pos rfl, mn, bind_some', if_neg (by show ¬ (tally C (tally E 1).2).2 < 0; omega), es, bind_some', if_pos rfl, laws_FnExactEdgesInto.j1d_eq, if_neg (by simp),
        markInt64S_v (l := R) (a := 1) (by omega) (by omega) (by omega), bind_some']
      dsimp only
      rw [heldInt64S_v (n := R.length) (a := 1) (by omega) (by omega) (by omega), bind_some', if_neg (by omega), if_pos rfl, tn, bind_some', r2, bind_some', es, bind_some', if_pos rfl, laws_FnExactEdgesInto.j2d_eq, if_neg (by simp), heldInt64S_v (n := R.length) (a := 1) (by omega) (by omega) (by omega), bind_some', if_neg (by omega), if_pos rfl]
end Go.Proofs.Ytbalkaphibnpcaa.P
end
section
namespace Go.Proofs.Ytbalkaphibnpcaa.P
open Go.RowKit Go.Proofs.YtbalkaphibnpcaaW.PrintWords Go.Proofs.YtbalkaphibnpcaaW.PrintLast Go.Proofs.YtbalkaphibnpcaaW.PrintMore
/-- The one pure statement of laws_FnExactEdgesInto. -/
def laws_FnExactEdgesInto.Pure : Prop := ∀ (a0_0 : Int) (a0_1 : Int) (a0_2 : Int) (a0_3 : Int) (l0_4 : List (List Int)) (l0_5 : List (List Int)) (a1 : Int), ((Lit.int .i64 a0_0).wf = true) → ((Lit.int .i64 a0_1).wf = true) → ((Lit.int .i64 a0_2).wf = true) → ((Lit.int .i64 a0_3).wf = true) → (l0_4.length ≤ maxLen) → (∀ x ∈ l0_4, x.length ≤ maxLen ∧ ∀ y ∈ x, (Lit.int .i64 y).wf = true) → (l0_5.length ≤ maxLen) → (∀ x ∈ l0_5, x.length ≤ maxLen ∧ ∀ y ∈ x, (Lit.int .i64 y).wf = true) → ((Lit.int .i64 a1).wf = true) → ∃ k, laws_FnExactEdgesInto.f k a0_0 a0_1 a0_2 a0_3 l0_4 l0_5 a1 = some true
end Go.Proofs.Ytbalkaphibnpcaa.P
end
section
namespace Go.Proofs.Ytbalkaphibnpcaa.Pure
theorem FnExactEdgesInto : P.laws_FnExactEdgesInto.Pure := fun a0_0 a0_1 a0_2 a0_3 l0_4 l0_5 a1 _ _ _ _ h4_ h5_ h6_ h7_ _ => P.IsLim.some_ (P.laws_FnExactEdgesInto.lim a0_0 a0_1 a0_2 a0_3 l0_4 l0_5 a1) (P.EdgesInto_law a0_0 a0_1 a0_2 a0_3 l0_4 l0_5 a1 h4_ h5_ h6_ h7_)
end Go.Proofs.Ytbalkaphibnpcaa.Pure
end
