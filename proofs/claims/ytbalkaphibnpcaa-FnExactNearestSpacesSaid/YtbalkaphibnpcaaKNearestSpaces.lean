/- What the functions of the law FnExactNearestSpaces tell without rounds, and its pure statement. -/
import Derived.Test.YtbalkaphibnpcaaPx0
import Derived.Test.YtbalkaphibnpcaaPx3
import Derived.Test.YtbalkaphibnpcaaPx1
import Derived.Test.YtbalkaphibnpcaaPx18
import Derived.Test.YtbalkaphibnpcaaPx2
import Derived.Test.YtbalkaphibnpcaaPx19
import Derived.Test.YtbalkaphibnpcaaPx42
import Derived.Test.YtbalkaphibnpcaaPx20
import Derived.Test.YtbalkaphibnpcaaPx21
import Derived.Test.YtbalkaphibnpcaaPx43
import Derived.Test.YtbalkaphibnpcaaPx22
import Derived.Test.YtbalkaphibnpcaaPx23
import Derived.Test.YtbalkaphibnpcaaPx44
import Derived.Test.YtbalkaphibnpcaaPx24
import Derived.Test.YtbalkaphibnpcaaPx25
import Derived.Test.YtbalkaphibnpcaaPx26
import Derived.Test.YtbalkaphibnpcaaPx45
import Derived.Test.YtbalkaphibnpcaaPx4
import Derived.Test.YtbalkaphibnpcaaPx46
import Derived.Test.YtbalkaphibnpcaaPx27
import Derived.Test.YtbalkaphibnpcaaPx51
import Derived.ProofKit
section
namespace Go.Proofs.Ytbalkaphibnpcaa.P
open Go.RowKit Go.Proofs.YtbalkaphibnpcaaW.PrintWords Go.Proofs.YtbalkaphibnpcaaW.PrintLast Go.Proofs.YtbalkaphibnpcaaW.PrintMore
def IsLim {α : Type} (g : Nat → Option α) (v : Option α) : Prop := (∀ k, LeO (g k) (g (k + 1))) ∧ ∀ r, v = some r ↔ ∃ k, g k = some r
theorem leO_le {α : Type} {g : Nat → Option α} (h : ∀ k, LeO (g k) (g (k + 1))) {j k : Nat} (hjk : j ≤ k) : LeO (g j) (g k) := by
  induction hjk with
  | refl => exact fun _ e => e
  | step _ ih => exact fun r e => h _ r (ih r e)
open Classical in
noncomputable def lim {α : Type} (g : Nat → Option α) : Option α := if h : ∃ r, ∃ k, g k = some r then some h.choose else none
theorem lim_spec {α : Type} {g : Nat → Option α} (h : ∀ k, LeO (g k) (g (k + 1))) : IsLim g (lim g) := by
  refine ⟨h, fun r => ?_⟩
  unfold lim
  by_cases hx : ∃ r, ∃ k, g k = some r
  · rw [dif_pos hx]
    obtain ⟨k, hk⟩ := hx.choose_spec
    constructor
    · intro e; exact ⟨k, by rw [hk]; exact e⟩
    · rintro ⟨j, hj⟩
      have a := leO_le h (Nat.le_max_left j k) _ hj
      have b := leO_le h (Nat.le_max_right j k) _ hk
      rw [a] at b; exact b.symm
  · rw [dif_neg hx]
    constructor
    · intro e; cases e
    · rintro ⟨k, hk⟩; exact absurd ⟨r, k, hk⟩ hx
theorem IsLim.unique {α : Type} {g : Nat → Option α} {v v' : Option α} (h : IsLim g v) (h' : IsLim g v') : v = v' :=
  Option.ext fun r => (h.2 r).trans (h'.2 r).symm
theorem IsLim.const {α : Type} (v : Option α) : IsLim (fun _ => v) v := ⟨fun _ _ e => e, fun _ => ⟨fun e => ⟨0, e⟩, fun ⟨_, e⟩ => e⟩⟩
theorem IsLim.ite {α : Type} {c : Prop} [Decidable c] {g g' : Nat → Option α} {v v' : Option α} (h : IsLim g v) (h' : IsLim g' v') :
    IsLim (fun k => if c then g k else g' k) (if c then v else v') := by
  by_cases hc : c
  · simp only [if_pos hc]; exact h
  · simp only [if_neg hc]; exact h'
theorem IsLim.bind {α β : Type} {g : Nat → Option α} {v : Option α} {q : Nat → α → Option β} {w : α → Option β}
    (h : IsLim g v) (hq : ∀ x, IsLim (fun k => q k x) (w x)) : IsLim (fun k => (g k).bind (q k)) (v.bind w) := by
  refine ⟨fun k r e => ?_, fun r => ?_⟩
  · obtain ⟨x, hx, hr⟩ := Option.bind_eq_some_iff.mp e
    exact Option.bind_eq_some_iff.mpr ⟨x, h.1 k x hx, (hq x).1 k r hr⟩
  · constructor
    · intro e
      obtain ⟨x, hx, hr⟩ := Option.bind_eq_some_iff.mp e
      obtain ⟨j, hj⟩ := (h.2 x).mp hx
      obtain ⟨k, hk⟩ := ((hq x).2 r).mp hr
      exact ⟨max j k, Option.bind_eq_some_iff.mpr ⟨x, leO_le h.1 (Nat.le_max_left j k) _ hj, leO_le (hq x).1 (Nat.le_max_right j k) _ hk⟩⟩
    · rintro ⟨k, e⟩
      obtain ⟨x, hx, hr⟩ := Option.bind_eq_some_iff.mp e
      exact Option.bind_eq_some_iff.mpr ⟨x, (h.2 x).mpr ⟨k, hx⟩, ((hq x).2 r).mpr ⟨k, hr⟩⟩
theorem IsLim.shift {α : Type} {g : Nat → Option α} {v : Option α} (h0 : g 0 = none) (h : IsLim (fun k => g (k + 1)) v) : IsLim g v := by
  refine ⟨fun k => ?_, fun r => ?_⟩
  · cases k with
    | zero => intro r e; rw [h0] at e; cases e
    | succ k => exact h.1 k
  · rw [h.2 r]
    constructor
    · rintro ⟨k, e⟩; exact ⟨k + 1, e⟩
    · rintro ⟨k, e⟩
      cases k with
      | zero => rw [h0] at e; cases e
      | succ k => exact ⟨k, e⟩
theorem IsLim.some_ {α : Type} {g : Nat → Option α} {v : Option α} {r : α} (h : IsLim g v) (e : v = some r) : ∃ k, g k = some r := (h.2 r).mp e
end Go.Proofs.Ytbalkaphibnpcaa.P
end
section
namespace Go.Proofs.Ytbalkaphibnpcaa.P
open Go.RowKit Go.Proofs.YtbalkaphibnpcaaW.PrintWords Go.Proofs.YtbalkaphibnpcaaW.PrintLast Go.Proofs.YtbalkaphibnpcaaW.PrintMore
set_option linter.unusedVariables false
set_option linter.unusedSimpArgs false
end Go.Proofs.Ytbalkaphibnpcaa.P
end
section
namespace Go.Proofs.Ytbalkaphibnpcaa.P
open Go.RowKit Go.Proofs.YtbalkaphibnpcaaW.PrintWords Go.Proofs.YtbalkaphibnpcaaW.PrintLast Go.Proofs.YtbalkaphibnpcaaW.PrintMore
set_option linter.unusedVariables false
set_option linter.unusedSimpArgs false
noncomputable def laws_toInt64S.l0d (x0 : List Int) (x3 : List Int) (x4 : Int) : Option (List Int) := lim (fun k => laws_toInt64S.l0 k x0 x3 x4)
theorem laws_toInt64S.l0lim (x0 : List Int) (x3 : List Int) (x4 : Int) : IsLim (fun k => laws_toInt64S.l0 k x0 x3 x4) (laws_toInt64S.l0d x0 x3 x4) := lim_spec (fun k => (laws_toInt64S.mono_l k) x0 x3 x4)
theorem laws_toInt64S.l0d_eq (x0 : List Int) (x3 : List Int) (x4 : Int) : laws_toInt64S.l0d x0 x3 x4 = if x4 < (x0.length : Int) then (if 0 ≤ x4 then (if x4 < (x3.length : Int) then (laws_toInt64S.l0d x0 (x3.set (x4 : Int).toNat (rd x0 x4)) (wrap64 (x4 + 1))) else (none)) else (none)) else (some x3) := by
  refine IsLim.unique (laws_toInt64S.l0lim _ _ _) ?_
  refine IsLim.shift (by rfl) ?_
  simp only [laws_toInt64S.l0]
  repeat' (first | exact IsLim.const _ | refine IsLim.ite ?_ ?_ | refine IsLim.bind ?_ (fun _ => ?_) | exact laws_toInt64S.l0lim ..)
noncomputable def laws_toInt64S.d (l0 : List Int) : Option (List Int) := lim (fun k => laws_toInt64S.f k l0)
theorem laws_toInt64S.lim (l0 : List Int) : IsLim (fun k => laws_toInt64S.f k l0) (laws_toInt64S.d l0) := lim_spec (fun k => laws_toInt64S.mono l0 k)
theorem laws_toInt64S.d_eq (l0 : List Int) : laws_toInt64S.d l0 = if 0 ≤ (l0.length : Int) then (if ((l0.length : Int) : Int).toNat ≤ 35184372088832 then (laws_toInt64S.l0d l0 (List.replicate ((l0.length : Int) : Int).toNat 0) 0) else (none)) else (none) := by
  refine IsLim.unique (laws_toInt64S.lim _) ?_
  unfold laws_toInt64S.f
  repeat' (first | exact IsLim.const _ | refine IsLim.ite ?_ ?_ | refine IsLim.bind ?_ (fun _ => ?_) | exact laws_toInt64S.l0lim ..)
noncomputable def laws_eqInt64S.l0d (x0 : List Int) (x1 : List Int) (x5 : Int) : Option (Bool) := lim (fun k => laws_eqInt64S.l0 k x0 x1 x5)
theorem laws_eqInt64S.l0lim (x0 : List Int) (x1 : List Int) (x5 : Int) : IsLim (fun k => laws_eqInt64S.l0 k x0 x1 x5) (laws_eqInt64S.l0d x0 x1 x5) := lim_spec (fun k => (laws_eqInt64S.mono_l k) x0 x1 x5)
theorem laws_eqInt64S.l0d_eq (x0 : List Int) (x1 : List Int) (x5 : Int) : laws_eqInt64S.l0d x0 x1 x5 = if x5 < (x0.length : Int) then (if 0 ≤ x5 then (if x5 < (x1.length : Int) then (if (rd x0 x5) = (rd x1 x5) then (laws_eqInt64S.l0d x0 x1 (wrap64 (x5 + 1))) else (some false)) else (none)) else (none)) else (some true) := by
  refine IsLim.unique (laws_eqInt64S.l0lim _ _ _) ?_
  refine IsLim.shift (by rfl) ?_
  simp only [laws_eqInt64S.l0]
  repeat' (first | exact IsLim.const _ | refine IsLim.ite ?_ ?_ | refine IsLim.bind ?_ (fun _ => ?_) | exact laws_eqInt64S.l0lim ..)
noncomputable def laws_eqInt64S.d (l0 : List Int) (l1 : List Int) : Option (Bool) := lim (fun k => laws_eqInt64S.f k l0 l1)
theorem laws_eqInt64S.lim (l0 : List Int) (l1 : List Int) : IsLim (fun k => laws_eqInt64S.f k l0 l1) (laws_eqInt64S.d l0 l1) := lim_spec (fun k => laws_eqInt64S.mono l0 l1 k)
theorem laws_eqInt64S.d_eq (l0 : List Int) (l1 : List Int) : laws_eqInt64S.d l0 l1 = if (l0.length : Int) = (l1.length : Int) then (laws_eqInt64S.l0d l0 l1 0) else (some false) := by
  refine IsLim.unique (laws_eqInt64S.lim _ _) ?_
  unfold laws_eqInt64S.f
  repeat' (first | exact IsLim.const _ | refine IsLim.ite ?_ ?_ | refine IsLim.bind ?_ (fun _ => ?_) | exact laws_eqInt64S.l0lim ..)
end Go.Proofs.Ytbalkaphibnpcaa.P
end
section
namespace Go.Proofs.Ytbalkaphibnpcaa.P
open Go.RowKit Go.Proofs.YtbalkaphibnpcaaW.PrintWords Go.Proofs.YtbalkaphibnpcaaW.PrintLast Go.Proofs.YtbalkaphibnpcaaW.PrintMore
set_option linter.unusedVariables false
set_option linter.unusedSimpArgs false
noncomputable def laws_szMatrixS.l0d (x0 : List (S59)) (x1 : Int) (x5 : Int) : Option (Int) := lim (fun k => laws_szMatrixS.l0 k x0 x1 x5)
theorem laws_szMatrixS.l0lim (x0 : List (S59)) (x1 : Int) (x5 : Int) : IsLim (fun k => laws_szMatrixS.l0 k x0 x1 x5) (laws_szMatrixS.l0d x0 x1 x5) := lim_spec (fun k => (laws_szMatrixS.mono_l k) x0 x1 x5)
theorem laws_szMatrixS.l0d_eq (x0 : List (S59)) (x1 : Int) (x5 : Int) : laws_szMatrixS.l0d x0 x1 x5 = if x5 < (x0.length : Int) then (if 0 ≤ x5 then ((laws_szMatrix.f ((rd_T59 x0 x5).f0) ((rd_T59 x0 x5).f1) x1).bind fun t534 => (if t534 < 0 then (some (-1)) else (laws_szMatrixS.l0d x0 t534 (wrap64 (x5 + 1))))) else (none)) else (some x1) := by
  refine IsLim.unique (laws_szMatrixS.l0lim _ _ _) ?_
  refine IsLim.shift (by rfl) ?_
  simp only [laws_szMatrixS.l0]
  repeat' (first | exact IsLim.const _ | refine IsLim.ite ?_ ?_ | refine IsLim.bind ?_ (fun _ => ?_) | exact laws_szMatrixS.l0lim ..)
noncomputable def laws_szMatrixS.d (l0 : List (S59)) (a1 : Int) : Option (Int) := lim (fun k => laws_szMatrixS.f k l0 a1)
theorem laws_szMatrixS.lim (l0 : List (S59)) (a1 : Int) : IsLim (fun k => laws_szMatrixS.f k l0 a1) (laws_szMatrixS.d l0 a1) := lim_spec (fun k => laws_szMatrixS.mono l0 a1 k)
theorem laws_szMatrixS.d_eq (l0 : List (S59)) (a1 : Int) : laws_szMatrixS.d l0 a1 = if (wrap64 (a1 - (l0.length : Int))) < 0 then (some (-1)) else (laws_szMatrixS.l0d l0 (wrap64 (a1 - (l0.length : Int))) 0) := by
  refine IsLim.unique (laws_szMatrixS.lim _ _) ?_
  unfold laws_szMatrixS.f
  repeat' (first | exact IsLim.const _ | refine IsLim.ite ?_ ?_ | refine IsLim.bind ?_ (fun _ => ?_) | exact laws_szMatrixS.l0lim ..)
noncomputable def spec_l00Same.l0d (x0 : List Int) (x1 : List Int) (x5 : Int) : Option (Bool) := lim (fun k => spec_l00Same.l0 k x0 x1 x5)
theorem spec_l00Same.l0lim (x0 : List Int) (x1 : List Int) (x5 : Int) : IsLim (fun k => spec_l00Same.l0 k x0 x1 x5) (spec_l00Same.l0d x0 x1 x5) := lim_spec (fun k => (spec_l00Same.mono_l k) x0 x1 x5)
theorem spec_l00Same.l0d_eq (x0 : List Int) (x1 : List Int) (x5 : Int) : spec_l00Same.l0d x0 x1 x5 = if x5 < (x0.length : Int) then (if 0 ≤ x5 then (if x5 < (x1.length : Int) then (if (rd x0 x5) = (rd x1 x5) then (spec_l00Same.l0d x0 x1 (wrap64 (x5 + 1))) else (some false)) else (none)) else (none)) else (some true) := by
  refine IsLim.unique (spec_l00Same.l0lim _ _ _) ?_
  refine IsLim.shift (by rfl) ?_
  simp only [spec_l00Same.l0]
  repeat' (first | exact IsLim.const _ | refine IsLim.ite ?_ ?_ | refine IsLim.bind ?_ (fun _ => ?_) | exact spec_l00Same.l0lim ..)
noncomputable def spec_l00Same.d (l0 : List Int) (l1 : List Int) : Option (Bool) := lim (fun k => spec_l00Same.f k l0 l1)
theorem spec_l00Same.lim (l0 : List Int) (l1 : List Int) : IsLim (fun k => spec_l00Same.f k l0 l1) (spec_l00Same.d l0 l1) := lim_spec (fun k => spec_l00Same.mono l0 l1 k)
theorem spec_l00Same.d_eq (l0 : List Int) (l1 : List Int) : spec_l00Same.d l0 l1 = if (l0.length : Int) = (l1.length : Int) then (spec_l00Same.l0d l0 l1 0) else (some false) := by
  refine IsLim.unique (spec_l00Same.lim _ _) ?_
  unfold spec_l00Same.f
  repeat' (first | exact IsLim.const _ | refine IsLim.ite ?_ ?_ | refine IsLim.bind ?_ (fun _ => ?_) | exact spec_l00Same.l0lim ..)
end Go.Proofs.Ytbalkaphibnpcaa.P
end
section
namespace Go.Proofs.Ytbalkaphibnpcaa.P
open Go.RowKit Go.Proofs.YtbalkaphibnpcaaW.PrintWords Go.Proofs.YtbalkaphibnpcaaW.PrintLast Go.Proofs.YtbalkaphibnpcaaW.PrintMore
set_option linter.unusedVariables false
set_option linter.unusedSimpArgs false
end Go.Proofs.Ytbalkaphibnpcaa.P
end
section
namespace Go.Proofs.Ytbalkaphibnpcaa.P
open Go.RowKit Go.Proofs.YtbalkaphibnpcaaW.PrintWords Go.Proofs.YtbalkaphibnpcaaW.PrintLast Go.Proofs.YtbalkaphibnpcaaW.PrintMore
set_option linter.unusedVariables false
set_option linter.unusedSimpArgs false
noncomputable def spec_l02Echelon.l0d (x0 : Int) (x5 : List Int) (x6 : List Int) (x7 : Int) : Option (List Int) := lim (fun k => spec_l02Echelon.l0 k x0 x5 x6 x7)
theorem spec_l02Echelon.l0lim (x0 : Int) (x5 : List Int) (x6 : List Int) (x7 : Int) : IsLim (fun k => spec_l02Echelon.l0 k x0 x5 x6 x7) (spec_l02Echelon.l0d x0 x5 x6 x7) := lim_spec (fun k => (spec_l02Echelon.mono_l k).1 x0 x5 x6 x7)
noncomputable def spec_l02Echelon.l1d (x0 : Int) (x5 : List Int) (x6 : List Int) (x7 : Int) (x8 : Int) (x9 : Int) : Option (List Int) := lim (fun k => spec_l02Echelon.l1 k x0 x5 x6 x7 x8 x9)
theorem spec_l02Echelon.l1lim (x0 : Int) (x5 : List Int) (x6 : List Int) (x7 : Int) (x8 : Int) (x9 : Int) : IsLim (fun k => spec_l02Echelon.l1 k x0 x5 x6 x7 x8 x9) (spec_l02Echelon.l1d x0 x5 x6 x7 x8 x9) := lim_spec (fun k => (spec_l02Echelon.mono_l k).2.1 x0 x5 x6 x7 x8 x9)
noncomputable def spec_l02Echelon.j2d (x0 : Int) (x5 : List Int) (x6 : List Int) (x7 : Int) (x8 : Int) (x9 : Int) (x28 : Bool) : Option (List Int) := lim (fun k => spec_l02Echelon.j2 k x0 x5 x6 x7 x8 x9 x28)
theorem spec_l02Echelon.j2lim (x0 : Int) (x5 : List Int) (x6 : List Int) (x7 : Int) (x8 : Int) (x9 : Int) (x28 : Bool) : IsLim (fun k => spec_l02Echelon.j2 k x0 x5 x6 x7 x8 x9 x28) (spec_l02Echelon.j2d x0 x5 x6 x7 x8 x9 x28) := lim_spec (fun k => (spec_l02Echelon.mono_l k).2.2.1 x0 x5 x6 x7 x8 x9 x28)
noncomputable def spec_l02Echelon.l2d (x0 : Int) (x5 : List Int) (x6 : List Int) (x7 : Int) (x10 : Int) (x11 : Int) : Option (List Int) := lim (fun k => spec_l02Echelon.l2 k x0 x5 x6 x7 x10 x11)
theorem spec_l02Echelon.l2lim (x0 : Int) (x5 : List Int) (x6 : List Int) (x7 : Int) (x10 : Int) (x11 : Int) : IsLim (fun k => spec_l02Echelon.l2 k x0 x5 x6 x7 x10 x11) (spec_l02Echelon.l2d x0 x5 x6 x7 x10 x11) := lim_spec (fun k => (spec_l02Echelon.mono_l k).2.2.2.1 x0 x5 x6 x7 x10 x11)
noncomputable def spec_l02Echelon.l3d (x0 : Int) (x5 : List Int) (x6 : List Int) (x7 : Int) (x10 : Int) (x12 : Int) : Option (List Int) := lim (fun k => spec_l02Echelon.l3 k x0 x5 x6 x7 x10 x12)
theorem spec_l02Echelon.l3lim (x0 : Int) (x5 : List Int) (x6 : List Int) (x7 : Int) (x10 : Int) (x12 : Int) : IsLim (fun k => spec_l02Echelon.l3 k x0 x5 x6 x7 x10 x12) (spec_l02Echelon.l3d x0 x5 x6 x7 x10 x12) := lim_spec (fun k => (spec_l02Echelon.mono_l k).2.2.2.2 x0 x5 x6 x7 x10 x12)
theorem spec_l02Echelon.l0d_eq (x0 : Int) (x5 : List Int) (x6 : List Int) (x7 : Int) : spec_l02Echelon.l0d x0 x5 x6 x7 = if x7 < x0 then (spec_l02Echelon.l1d x0 x5 x6 x7 (-1) 0) else (some x6) := by
  refine IsLim.unique (spec_l02Echelon.l0lim _ _ _ _) ?_
  refine IsLim.shift (by rfl) ?_
  simp only [spec_l02Echelon.l0]
  repeat' (first | exact IsLim.const _ | refine IsLim.ite ?_ ?_ | refine IsLim.bind ?_ (fun _ => ?_) | exact spec_l02Echelon.l1lim ..)
theorem spec_l02Echelon.l1d_eq (x0 : Int) (x5 : List Int) (x6 : List Int) (x7 : Int) (x8 : Int) (x9 : Int) : spec_l02Echelon.l1d x0 x5 x6 x7 x8 x9 = if x9 < (x5.length : Int) then (spec_l02Echelon.j2d x0 x5 x6 x7 x8 x9 (decide (x8 < 0))) else (spec_l02Echelon.j2d x0 x5 x6 x7 x8 x9 false) := by
  refine IsLim.unique (spec_l02Echelon.l1lim _ _ _ _ _ _) ?_
  refine IsLim.shift (by rfl) ?_
  simp only [spec_l02Echelon.l1]
  repeat' (first | exact IsLim.const _ | refine IsLim.ite ?_ ?_ | refine IsLim.bind ?_ (fun _ => ?_) | exact spec_l02Echelon.j2lim ..)
theorem spec_l02Echelon.j2d_eq (x0 : Int) (x5 : List Int) (x6 : List Int) (x7 : Int) (x8 : Int) (x9 : Int) (x28 : Bool) : spec_l02Echelon.j2d x0 x5 x6 x7 x8 x9 x28 = if x28 = true then (if 0 ≤ x9 then (if x9 < (x5.length : Int) then ((spec_l02Bit.f (rd x5 x9) x7).bind fun t544 => (if t544 = 1 then (spec_l02Echelon.l1d x0 x5 x6 x7 x9 (wrap64 (x9 + 1))) else (spec_l02Echelon.l1d x0 x5 x6 x7 x8 (wrap64 (x9 + 1))))) else (none)) else (none)) else (if x8 < 0 then (spec_l02Echelon.l0d x0 x5 x6 (wrap64 (x7 + 1))) else (if 0 ≤ x8 then (if x8 < (x5.length : Int) then (spec_l02Echelon.l2d x0 (x5.set (x8 : Int).toNat 0) x6 x7 (rd x5 x8) 0) else (none)) else (none))) := by
  refine IsLim.unique (spec_l02Echelon.j2lim _ _ _ _ _ _ _) ?_
  refine IsLim.shift (by rfl) ?_
  simp only [spec_l02Echelon.j2]
  repeat' (first | exact IsLim.const _ | refine IsLim.ite ?_ ?_ | refine IsLim.bind ?_ (fun _ => ?_) | exact spec_l02Echelon.l1lim .. | exact spec_l02Echelon.l0lim .. | exact spec_l02Echelon.l2lim ..)
theorem spec_l02Echelon.l2d_eq (x0 : Int) (x5 : List Int) (x6 : List Int) (x7 : Int) (x10 : Int) (x11 : Int) : spec_l02Echelon.l2d x0 x5 x6 x7 x10 x11 = if x11 < (x5.length : Int) then (if 0 ≤ x11 then ((spec_l02Bit.f (rd x5 x11) x7).bind fun t548 => (if t548 = 1 then (spec_l02Echelon.l2d x0 (x5.set (x11 : Int).toNat (Go.bits .xor .i64 (rd x5 x11) x10)) x6 x7 x10 (wrap64 (x11 + 1))) else (spec_l02Echelon.l2d x0 x5 x6 x7 x10 (wrap64 (x11 + 1))))) else (none)) else (spec_l02Echelon.l3d x0 x5 x6 x7 x10 0) := by
  refine IsLim.unique (spec_l02Echelon.l2lim _ _ _ _ _ _) ?_
  refine IsLim.shift (by rfl) ?_
  simp only [spec_l02Echelon.l2]
  repeat' (first | exact IsLim.const _ | refine IsLim.ite ?_ ?_ | refine IsLim.bind ?_ (fun _ => ?_) | exact spec_l02Echelon.l2lim .. | exact spec_l02Echelon.l3lim ..)
theorem spec_l02Echelon.l3d_eq (x0 : Int) (x5 : List Int) (x6 : List Int) (x7 : Int) (x10 : Int) (x12 : Int) : spec_l02Echelon.l3d x0 x5 x6 x7 x10 x12 = if x12 < (x6.length : Int) then (if 0 ≤ x12 then ((spec_l02Bit.f (rd x6 x12) x7).bind fun t552 => (if t552 = 1 then (spec_l02Echelon.l3d x0 x5 (x6.set (x12 : Int).toNat (Go.bits .xor .i64 (rd x6 x12) x10)) x7 x10 (wrap64 (x12 + 1))) else (spec_l02Echelon.l3d x0 x5 x6 x7 x10 (wrap64 (x12 + 1))))) else (none)) else (if x6.length < 17592186044416 then (spec_l02Echelon.l0d x0 x5 (x6 ++ [x10]) (wrap64 (x7 + 1))) else (none)) := by
  refine IsLim.unique (spec_l02Echelon.l3lim _ _ _ _ _ _) ?_
  refine IsLim.shift (by rfl) ?_
  simp only [spec_l02Echelon.l3]
  repeat' (first | exact IsLim.const _ | refine IsLim.ite ?_ ?_ | refine IsLim.bind ?_ (fun _ => ?_) | exact spec_l02Echelon.l3lim .. | exact spec_l02Echelon.l0lim ..)
noncomputable def spec_l02Echelon.d (a0 : Int) (l1 : List Int) : Option (List Int) := lim (fun k => spec_l02Echelon.f k a0 l1)
theorem spec_l02Echelon.lim (a0 : Int) (l1 : List Int) : IsLim (fun k => spec_l02Echelon.f k a0 l1) (spec_l02Echelon.d a0 l1) := lim_spec (fun k => spec_l02Echelon.mono a0 l1 k)
theorem spec_l02Echelon.d_eq (a0 : Int) (l1 : List Int) : spec_l02Echelon.d a0 l1 = (spec_l00Own.f l1).bind fun t537 => (spec_l02Echelon.l0d a0 t537 (([] : List Int)) 0) := by
  refine IsLim.unique (spec_l02Echelon.lim _ _) ?_
  unfold spec_l02Echelon.f
  repeat' (first | exact IsLim.const _ | refine IsLim.ite ?_ ?_ | refine IsLim.bind ?_ (fun _ => ?_) | exact spec_l02Echelon.l0lim ..)
end Go.Proofs.Ytbalkaphibnpcaa.P
end
section
namespace Go.Proofs.Ytbalkaphibnpcaa.P
open Go.RowKit Go.Proofs.YtbalkaphibnpcaaW.PrintWords Go.Proofs.YtbalkaphibnpcaaW.PrintLast Go.Proofs.YtbalkaphibnpcaaW.PrintMore
set_option linter.unusedVariables false
set_option linter.unusedSimpArgs false
noncomputable def spec_l02Sum.d (a0_0 : Int) (l0_1 : List Int) (a1_0 : Int) (l1_1 : List Int) : Option (Int × List Int) := lim (fun k => spec_l02Sum.f k a0_0 l0_1 a1_0 l1_1)
theorem spec_l02Sum.lim (a0_0 : Int) (l0_1 : List Int) (a1_0 : Int) (l1_1 : List Int) : IsLim (fun k => spec_l02Sum.f k a0_0 l0_1 a1_0 l1_1) (spec_l02Sum.d a0_0 l0_1 a1_0 l1_1) := lim_spec (fun k => spec_l02Sum.mono a0_0 l0_1 a1_0 l1_1 k)
theorem spec_l02Sum.d_eq (a0_0 : Int) (l0_1 : List Int) (a1_0 : Int) (l1_1 : List Int) : spec_l02Sum.d a0_0 l0_1 a1_0 l1_1 = (spec_l00Own.f l0_1).bind fun t755 => (if t755.length + l1_1.length < 17592186044416 then ((spec_l02Echelon.d a0_0 (t755 ++ l1_1)).bind fun t761 => (some (a0_0, t761))) else (none)) := by
  refine IsLim.unique (spec_l02Sum.lim _ _ _ _) ?_
  unfold spec_l02Sum.f
  repeat' (first | exact IsLim.const _ | refine IsLim.ite ?_ ?_ | refine IsLim.bind ?_ (fun _ => ?_) | exact spec_l02Echelon.lim ..)
noncomputable def spec_l02Distance.d (a0_0 : Int) (l0_1 : List Int) (a1_0 : Int) (l1_1 : List Int) : Option (Int) := lim (fun k => spec_l02Distance.f k a0_0 l0_1 a1_0 l1_1)
theorem spec_l02Distance.lim (a0_0 : Int) (l0_1 : List Int) (a1_0 : Int) (l1_1 : List Int) : IsLim (fun k => spec_l02Distance.f k a0_0 l0_1 a1_0 l1_1) (spec_l02Distance.d a0_0 l0_1 a1_0 l1_1) := lim_spec (fun k => spec_l02Distance.mono a0_0 l0_1 a1_0 l1_1 k)
theorem spec_l02Distance.d_eq (a0_0 : Int) (l0_1 : List Int) (a1_0 : Int) (l1_1 : List Int) : spec_l02Distance.d a0_0 l0_1 a1_0 l1_1 = (spec_l02Sum.d a0_0 l0_1 a1_0 l1_1).bind fun bt764 => (some (wrap64 ((wrap64 ((wrap64 (2 * (bt764.2.length : Int))) - (l0_1.length : Int))) - (l1_1.length : Int)))) := by
  refine IsLim.unique (spec_l02Distance.lim _ _ _ _) ?_
  unfold spec_l02Distance.f
  repeat' (first | exact IsLim.const _ | refine IsLim.ite ?_ ?_ | refine IsLim.bind ?_ (fun _ => ?_) | exact spec_l02Sum.lim ..)
end Go.Proofs.Ytbalkaphibnpcaa.P
end
section
namespace Go.Proofs.Ytbalkaphibnpcaa.P
open Go.RowKit Go.Proofs.YtbalkaphibnpcaaW.PrintWords Go.Proofs.YtbalkaphibnpcaaW.PrintLast Go.Proofs.YtbalkaphibnpcaaW.PrintMore
set_option linter.unusedVariables false
set_option linter.unusedSimpArgs false
noncomputable def spec_l02Ok.j0d (x17 : Bool) (x41000 : Int) (x41001 : List Int) : Option (Bool) := lim (fun k => spec_l02Ok.j0 k x17 x41000 x41001)
theorem spec_l02Ok.j0lim (x17 : Bool) (x41000 : Int) (x41001 : List Int) : IsLim (fun k => spec_l02Ok.j0 k x17 x41000 x41001) (spec_l02Ok.j0d x17 x41000 x41001) := lim_spec (fun k => (spec_l02Ok.mono_l k).1 x17 x41000 x41001)
noncomputable def spec_l02Ok.l0d (x3 : Int) (x41000 : Int) (x41001 : List Int) : Option (Bool) := lim (fun k => spec_l02Ok.l0 k x3 x41000 x41001)
theorem spec_l02Ok.l0lim (x3 : Int) (x41000 : Int) (x41001 : List Int) : IsLim (fun k => spec_l02Ok.l0 k x3 x41000 x41001) (spec_l02Ok.l0d x3 x41000 x41001) := lim_spec (fun k => (spec_l02Ok.mono_l k).2 x3 x41000 x41001)
theorem spec_l02Ok.j0d_eq (x17 : Bool) (x41000 : Int) (x41001 : List Int) : spec_l02Ok.j0d x17 x41000 x41001 = if x17 = true then (some false) else (spec_l02Ok.l0d 0 x41000 x41001) := by
  refine IsLim.unique (spec_l02Ok.j0lim _ _ _) ?_
  refine IsLim.shift (by rfl) ?_
  simp only [spec_l02Ok.j0]
  repeat' (first | exact IsLim.const _ | refine IsLim.ite ?_ ?_ | refine IsLim.bind ?_ (fun _ => ?_) | exact spec_l02Ok.l0lim ..)
theorem spec_l02Ok.l0d_eq (x3 : Int) (x41000 : Int) (x41001 : List Int) : spec_l02Ok.l0d x3 x41000 x41001 = if x3 < (x41001.length : Int) then (if 0 ≤ x3 then (if 0 ≤ (IntKind.u64.wrap (x41000)) then ((spec_l00In.f (rd x41001 x3) 0 (wrap64 ((shl .i64 1 (IntKind.u64.wrap (x41000))) - 1))).bind fun t560 => (if t560 = true then (spec_l02Ok.l0d (wrap64 (x3 + 1)) x41000 x41001) else (some false))) else (none)) else (none)) else (some true) := by
  refine IsLim.unique (spec_l02Ok.l0lim _ _ _) ?_
  refine IsLim.shift (by rfl) ?_
  simp only [spec_l02Ok.l0]
  repeat' (first | exact IsLim.const _ | refine IsLim.ite ?_ ?_ | refine IsLim.bind ?_ (fun _ => ?_) | exact spec_l02Ok.l0lim ..)
noncomputable def spec_l02Ok.d (a0_0 : Int) (l0_1 : List Int) : Option (Bool) := lim (fun k => spec_l02Ok.f k a0_0 l0_1)
theorem spec_l02Ok.lim (a0_0 : Int) (l0_1 : List Int) : IsLim (fun k => spec_l02Ok.f k a0_0 l0_1) (spec_l02Ok.d a0_0 l0_1) := lim_spec (fun k => spec_l02Ok.mono a0_0 l0_1 k)
theorem spec_l02Ok.d_eq (a0_0 : Int) (l0_1 : List Int) : spec_l02Ok.d a0_0 l0_1 = (spec_l00In.f a0_0 1 10).bind fun t558 => (if t558 = true then (spec_l02Ok.j0d (decide ((l0_1.length : Int) > 10)) a0_0 l0_1) else (spec_l02Ok.j0d true a0_0 l0_1)) := by
  refine IsLim.unique (spec_l02Ok.lim _ _) ?_
  unfold spec_l02Ok.f
  repeat' (first | exact IsLim.const _ | refine IsLim.ite ?_ ?_ | refine IsLim.bind ?_ (fun _ => ?_) | exact spec_l02Ok.j0lim ..)
noncomputable def spec_l02Space.d (a0_0 : Int) (l0_1 : List Int) : Option (Bool) := lim (fun k => spec_l02Space.f k a0_0 l0_1)
theorem spec_l02Space.lim (a0_0 : Int) (l0_1 : List Int) : IsLim (fun k => spec_l02Space.f k a0_0 l0_1) (spec_l02Space.d a0_0 l0_1) := lim_spec (fun k => spec_l02Space.mono a0_0 l0_1 k)
theorem spec_l02Space.d_eq (a0_0 : Int) (l0_1 : List Int) : spec_l02Space.d a0_0 l0_1 = (spec_l02Ok.d a0_0 l0_1).bind fun t561 => (if t561 = true then ((spec_l02Echelon.d a0_0 l0_1).bind fun t562 => ((spec_l00Same.d t562 l0_1).bind fun t565 => (some t565))) else (some false)) := by
  refine IsLim.unique (spec_l02Space.lim _ _) ?_
  unfold spec_l02Space.f
  repeat' (first | exact IsLim.const _ | refine IsLim.ite ?_ ?_ | refine IsLim.bind ?_ (fun _ => ?_) | exact spec_l02Ok.lim .. | exact spec_l02Echelon.lim .. | exact spec_l00Same.lim ..)
end Go.Proofs.Ytbalkaphibnpcaa.P
end
section
namespace Go.Proofs.Ytbalkaphibnpcaa.P
open Go.RowKit Go.Proofs.YtbalkaphibnpcaaW.PrintWords Go.Proofs.YtbalkaphibnpcaaW.PrintLast Go.Proofs.YtbalkaphibnpcaaW.PrintMore
set_option linter.unusedVariables false
set_option linter.unusedSimpArgs false
noncomputable def spec_l06Ok.l0d (x0 : List (S63)) (x3 : Int) : Option (Bool) := lim (fun k => spec_l06Ok.l0 k x0 x3)
theorem spec_l06Ok.l0lim (x0 : List (S63)) (x3 : Int) : IsLim (fun k => spec_l06Ok.l0 k x0 x3) (spec_l06Ok.l0d x0 x3) := lim_spec (fun k => (spec_l06Ok.mono_l k).1 x0 x3)
noncomputable def spec_l06Ok.j1d (x0 : List (S63)) (x3 : Int) (x45 : Bool) : Option (Bool) := lim (fun k => spec_l06Ok.j1 k x0 x3 x45)
theorem spec_l06Ok.j1lim (x0 : List (S63)) (x3 : Int) (x45 : Bool) : IsLim (fun k => spec_l06Ok.j1 k x0 x3 x45) (spec_l06Ok.j1d x0 x3 x45) := lim_spec (fun k => (spec_l06Ok.mono_l k).2.1 x0 x3 x45)
noncomputable def spec_l06Ok.l1d (x0 : List (S63)) (x3 : Int) (x4 : Int) : Option (Bool) := lim (fun k => spec_l06Ok.l1 k x0 x3 x4)
theorem spec_l06Ok.l1lim (x0 : List (S63)) (x3 : Int) (x4 : Int) : IsLim (fun k => spec_l06Ok.l1 k x0 x3 x4) (spec_l06Ok.l1d x0 x3 x4) := lim_spec (fun k => (spec_l06Ok.mono_l k).2.2 x0 x3 x4)
theorem spec_l06Ok.l0d_eq (x0 : List (S63)) (x3 : Int) : spec_l06Ok.l0d x0 x3 = if x3 < (x0.length : Int) then (if 0 ≤ x3 then ((spec_l02Space.d ((rd_T63 x0 x3).f0) ((rd_T63 x0 x3).f1)).bind fun t568 => (if t568 = true then (if 0 < (x0.length : Int) then (if ((rd_T63 x0 x3).f0) = ((rd_T63 x0 0).f0) then (spec_l06Ok.j1d x0 x3 ((((rd_T63 x0 x3).f1).length : Int) != (((rd_T63 x0 0).f1).length : Int))) else (spec_l06Ok.j1d x0 x3 true)) else (none)) else (spec_l06Ok.j1d x0 x3 true))) else (none)) else (some true) := by
  refine IsLim.unique (spec_l06Ok.l0lim _ _) ?_
  refine IsLim.shift (by rfl) ?_
  simp only [spec_l06Ok.l0]
  repeat' (first | exact IsLim.const _ | refine IsLim.ite ?_ ?_ | refine IsLim.bind ?_ (fun _ => ?_) | exact spec_l02Space.lim .. | exact spec_l06Ok.j1lim ..)
theorem spec_l06Ok.j1d_eq (x0 : List (S63)) (x3 : Int) (x45 : Bool) : spec_l06Ok.j1d x0 x3 x45 = if x45 = true then (some false) else (spec_l06Ok.l1d x0 x3 0) := by
  refine IsLim.unique (spec_l06Ok.j1lim _ _ _) ?_
  refine IsLim.shift (by rfl) ?_
  simp only [spec_l06Ok.j1]
  repeat' (first | exact IsLim.const _ | refine IsLim.ite ?_ ?_ | refine IsLim.bind ?_ (fun _ => ?_) | exact spec_l06Ok.l1lim ..)
theorem spec_l06Ok.l1d_eq (x0 : List (S63)) (x3 : Int) (x4 : Int) : spec_l06Ok.l1d x0 x3 x4 = if x4 < x3 then (if 0 ≤ x3 then (if x3 < (x0.length : Int) then (if 0 ≤ x4 then (if x4 < (x0.length : Int) then ((spec_l00Same.d ((rd_T63 x0 x3).f1) ((rd_T63 x0 x4).f1)).bind fun t575 => (if t575 = true then (some false) else (spec_l06Ok.l1d x0 x3 (wrap64 (x4 + 1))))) else (none)) else (none)) else (none)) else (none)) else (spec_l06Ok.l0d x0 (wrap64 (x3 + 1))) := by
  refine IsLim.unique (spec_l06Ok.l1lim _ _ _) ?_
  refine IsLim.shift (by rfl) ?_
  simp only [spec_l06Ok.l1]
  repeat' (first | exact IsLim.const _ | refine IsLim.ite ?_ ?_ | refine IsLim.bind ?_ (fun _ => ?_) | exact spec_l00Same.lim .. | exact spec_l06Ok.l1lim .. | exact spec_l06Ok.l0lim ..)
noncomputable def spec_l06Ok.d (l0 : List (S63)) : Option (Bool) := lim (fun k => spec_l06Ok.f k l0)
theorem spec_l06Ok.lim (l0 : List (S63)) : IsLim (fun k => spec_l06Ok.f k l0) (spec_l06Ok.d l0) := lim_spec (fun k => spec_l06Ok.mono l0 k)
theorem spec_l06Ok.d_eq (l0 : List (S63)) : spec_l06Ok.d l0 = (spec_l00In.f (l0.length : Int) 1 400).bind fun t566 => (if t566 = true then (spec_l06Ok.l0d l0 0) else (some false)) := by
  refine IsLim.unique (spec_l06Ok.lim _) ?_
  unfold spec_l06Ok.f
  repeat' (first | exact IsLim.const _ | refine IsLim.ite ?_ ?_ | refine IsLim.bind ?_ (fun _ => ?_) | exact spec_l06Ok.l0lim ..)
end Go.Proofs.Ytbalkaphibnpcaa.P
end
section
namespace Go.Proofs.Ytbalkaphibnpcaa.P
open Go.RowKit Go.Proofs.YtbalkaphibnpcaaW.PrintWords Go.Proofs.YtbalkaphibnpcaaW.PrintLast Go.Proofs.YtbalkaphibnpcaaW.PrintMore
set_option linter.unusedVariables false
set_option linter.unusedSimpArgs false
noncomputable def spec_NearestSpaces.j0d (x0 : List (S63)) (x17 : Bool) (x770000 : Int) (x770001 : List Int) : Option (Int × List Int × Int) := lim (fun k => spec_NearestSpaces.j0 k x0 x17 x770000 x770001)
theorem spec_NearestSpaces.j0lim (x0 : List (S63)) (x17 : Bool) (x770000 : Int) (x770001 : List Int) : IsLim (fun k => spec_NearestSpaces.j0 k x0 x17 x770000 x770001) (spec_NearestSpaces.j0d x0 x17 x770000 x770001) := lim_spec (fun k => (spec_NearestSpaces.mono_l k).1 x0 x17 x770000 x770001)
noncomputable def spec_NearestSpaces.l0d (x0 : List (S63)) (x7 : Int) (x8 : List Int) (x9 : Int) (x770000 : Int) (x770001 : List Int) : Option (Int × List Int × Int) := lim (fun k => spec_NearestSpaces.l0 k x0 x7 x8 x9 x770000 x770001)
theorem spec_NearestSpaces.l0lim (x0 : List (S63)) (x7 : Int) (x8 : List Int) (x9 : Int) (x770000 : Int) (x770001 : List Int) : IsLim (fun k => spec_NearestSpaces.l0 k x0 x7 x8 x9 x770000 x770001) (spec_NearestSpaces.l0d x0 x7 x8 x9 x770000 x770001) := lim_spec (fun k => (spec_NearestSpaces.mono_l k).2 x0 x7 x8 x9 x770000 x770001)
theorem spec_NearestSpaces.j0d_eq (x0 : List (S63)) (x17 : Bool) (x770000 : Int) (x770001 : List Int) : spec_NearestSpaces.j0d x0 x17 x770000 x770001 = if x17 = true then (some (0, (([] : List Int)), 1)) else (if 0 < (x0.length : Int) then (if x770000 = ((rd_T63 x0 0).f0) then (spec_NearestSpaces.l0d x0 21 (([] : List Int)) 0 x770000 x770001) else (some (0, (([] : List Int)), 2))) else (none)) := by
  refine IsLim.unique (spec_NearestSpaces.j0lim _ _ _ _) ?_
  refine IsLim.shift (by rfl) ?_
  simp only [spec_NearestSpaces.j0]
  repeat' (first | exact IsLim.const _ | refine IsLim.ite ?_ ?_ | refine IsLim.bind ?_ (fun _ => ?_) | exact spec_NearestSpaces.l0lim ..)
theorem spec_NearestSpaces.l0d_eq (x0 : List (S63)) (x7 : Int) (x8 : List Int) (x9 : Int) (x770000 : Int) (x770001 : List Int) : spec_NearestSpaces.l0d x0 x7 x8 x9 x770000 x770001 = if x9 < (x0.length : Int) then (if 0 ≤ x9 then ((spec_l02Distance.d ((rd_T63 x0 x9).f0) ((rd_T63 x0 x9).f1) x770000 x770001).bind fun t783 => (if t783 < x7 then ((some (([] : List Int) : List Int)).bind fun y784 => (if y784.length < 17592186044416 then (spec_NearestSpaces.l0d x0 t783 (y784 ++ [x9]) (wrap64 (x9 + 1)) x770000 x770001) else (none))) else (if t783 = x7 then (if x8.length < 17592186044416 then (spec_NearestSpaces.l0d x0 x7 (x8 ++ [x9]) (wrap64 (x9 + 1)) x770000 x770001) else (none)) else (spec_NearestSpaces.l0d x0 x7 x8 (wrap64 (x9 + 1)) x770000 x770001)))) else (none)) else (some (x7, x8, 0)) := by
  refine IsLim.unique (spec_NearestSpaces.l0lim _ _ _ _ _ _) ?_
  refine IsLim.shift (by rfl) ?_
  simp only [spec_NearestSpaces.l0]
  repeat' (first | exact IsLim.const _ | refine IsLim.ite ?_ ?_ | refine IsLim.bind ?_ (fun _ => ?_) | exact spec_l02Distance.lim .. | exact spec_NearestSpaces.l0lim ..)
noncomputable def spec_NearestSpaces.d (l0 : List (S63)) (a1_0 : Int) (l1_1 : List Int) : Option (Int × List Int × Int) := lim (fun k => spec_NearestSpaces.f k l0 a1_0 l1_1)
theorem spec_NearestSpaces.lim (l0 : List (S63)) (a1_0 : Int) (l1_1 : List Int) : IsLim (fun k => spec_NearestSpaces.f k l0 a1_0 l1_1) (spec_NearestSpaces.d l0 a1_0 l1_1) := lim_spec (fun k => spec_NearestSpaces.mono l0 a1_0 l1_1 k)
theorem spec_NearestSpaces.d_eq (l0 : List (S63)) (a1_0 : Int) (l1_1 : List Int) : spec_NearestSpaces.d l0 a1_0 l1_1 = (spec_l06Ok.d l0).bind fun t770 => (if t770 = true then ((spec_l02Space.d a1_0 l1_1).bind fun t771 => (spec_NearestSpaces.j0d l0 (!t771) a1_0 l1_1)) else (spec_NearestSpaces.j0d l0 true a1_0 l1_1)) := by
  refine IsLim.unique (spec_NearestSpaces.lim _ _ _) ?_
  unfold spec_NearestSpaces.f
  repeat' (first | exact IsLim.const _ | refine IsLim.ite ?_ ?_ | refine IsLim.bind ?_ (fun _ => ?_) | exact spec_l06Ok.lim .. | exact spec_l02Space.lim .. | exact spec_NearestSpaces.j0lim ..)
end Go.Proofs.Ytbalkaphibnpcaa.P
end
section
namespace Go.Proofs.Ytbalkaphibnpcaa.P
open Go.RowKit Go.Proofs.YtbalkaphibnpcaaW.PrintWords Go.Proofs.YtbalkaphibnpcaaW.PrintLast Go.Proofs.YtbalkaphibnpcaaW.PrintMore
set_option linter.unusedVariables false
set_option linter.unusedSimpArgs false
noncomputable def laws_toMatrix.d (a0_0 : Int) (l0_1 : List Int) : Option (Int × List Int) := lim (fun k => laws_toMatrix.f k a0_0 l0_1)
theorem laws_toMatrix.lim (a0_0 : Int) (l0_1 : List Int) : IsLim (fun k => laws_toMatrix.f k a0_0 l0_1) (laws_toMatrix.d a0_0 l0_1) := lim_spec (fun k => laws_toMatrix.mono a0_0 l0_1 k)
theorem laws_toMatrix.d_eq (a0_0 : Int) (l0_1 : List Int) : laws_toMatrix.d a0_0 l0_1 = (laws_toInt64S.d l0_1).bind fun t607 => (some (a0_0, t607)) := by
  refine IsLim.unique (laws_toMatrix.lim _ _) ?_
  unfold laws_toMatrix.f
  repeat' (first | exact IsLim.const _ | refine IsLim.ite ?_ ?_ | refine IsLim.bind ?_ (fun _ => ?_) | exact laws_toInt64S.lim ..)
noncomputable def laws_toMatrixS.l0d (x0 : List (S59)) (x3 : List (S63)) (x4 : Int) : Option ((List (S63))) := lim (fun k => laws_toMatrixS.l0 k x0 x3 x4)
theorem laws_toMatrixS.l0lim (x0 : List (S59)) (x3 : List (S63)) (x4 : Int) : IsLim (fun k => laws_toMatrixS.l0 k x0 x3 x4) (laws_toMatrixS.l0d x0 x3 x4) := lim_spec (fun k => (laws_toMatrixS.mono_l k) x0 x3 x4)
theorem laws_toMatrixS.l0d_eq (x0 : List (S59)) (x3 : List (S63)) (x4 : Int) : laws_toMatrixS.l0d x0 x3 x4 = if x4 < (x0.length : Int) then (if 0 ≤ x4 then ((laws_toMatrix.d ((rd_T59 x0 x4).f0) ((rd_T59 x0 x4).f1)).bind fun bt614 => (if x4 < (x3.length : Int) then (laws_toMatrixS.l0d x0 (x3.set (x4 : Int).toNat (⟨bt614.1, bt614.2⟩ : S63)) (wrap64 (x4 + 1))) else (none))) else (none)) else (some x3) := by
  refine IsLim.unique (laws_toMatrixS.l0lim _ _ _) ?_
  refine IsLim.shift (by rfl) ?_
  simp only [laws_toMatrixS.l0]
  repeat' (first | exact IsLim.const _ | refine IsLim.ite ?_ ?_ | refine IsLim.bind ?_ (fun _ => ?_) | exact laws_toMatrix.lim .. | exact laws_toMatrixS.l0lim ..)
noncomputable def laws_toMatrixS.d (l0 : List (S59)) : Option ((List (S63))) := lim (fun k => laws_toMatrixS.f k l0)
theorem laws_toMatrixS.lim (l0 : List (S59)) : IsLim (fun k => laws_toMatrixS.f k l0) (laws_toMatrixS.d l0) := lim_spec (fun k => laws_toMatrixS.mono l0 k)
theorem laws_toMatrixS.d_eq (l0 : List (S59)) : laws_toMatrixS.d l0 = if 0 ≤ (l0.length : Int) then (if ((l0.length : Int) : Int).toNat ≤ 8796093022208 then (laws_toMatrixS.l0d l0 (List.replicate ((l0.length : Int) : Int).toNat z63) 0) else (none)) else (none) := by
  refine IsLim.unique (laws_toMatrixS.lim _) ?_
  unfold laws_toMatrixS.f
  repeat' (first | exact IsLim.const _ | refine IsLim.ite ?_ ?_ | refine IsLim.bind ?_ (fun _ => ?_) | exact laws_toMatrixS.l0lim ..)
noncomputable def slices_IndexFunc_int64_int64_AT_impl_echelon_1.l0d (x0 : List Int) (x7 : Int) (x8 : Int) (x49000 : Int) : Option (Int) := lim (fun k => slices_IndexFunc_int64_int64_AT_impl_echelon_1.l0 k x0 x7 x8 x49000)
theorem slices_IndexFunc_int64_int64_AT_impl_echelon_1.l0lim (x0 : List Int) (x7 : Int) (x8 : Int) (x49000 : Int) : IsLim (fun k => slices_IndexFunc_int64_int64_AT_impl_echelon_1.l0 k x0 x7 x8 x49000) (slices_IndexFunc_int64_int64_AT_impl_echelon_1.l0d x0 x7 x8 x49000) := lim_spec (fun k => (slices_IndexFunc_int64_int64_AT_impl_echelon_1.mono_l k) x0 x7 x8 x49000)
theorem slices_IndexFunc_int64_int64_AT_impl_echelon_1.l0d_eq (x0 : List Int) (x7 : Int) (x8 : Int) (x49000 : Int) : slices_IndexFunc_int64_int64_AT_impl_echelon_1.l0d x0 x7 x8 x49000 = if x8 < x7 then (if 0 ≤ x8 then (if x8 < (x0.length : Int) then ((impl_echelon_1.f (rd x0 x8) x49000).bind fun t620 => (if t620 = true then (some x8) else (slices_IndexFunc_int64_int64_AT_impl_echelon_1.l0d x0 x7 (wrap64 (x8 + 1)) x49000))) else (none)) else (none)) else (some (-1)) := by
  refine IsLim.unique (slices_IndexFunc_int64_int64_AT_impl_echelon_1.l0lim _ _ _ _) ?_
  refine IsLim.shift (by rfl) ?_
  simp only [slices_IndexFunc_int64_int64_AT_impl_echelon_1.l0]
  repeat' (first | exact IsLim.const _ | refine IsLim.ite ?_ ?_ | refine IsLim.bind ?_ (fun _ => ?_) | exact slices_IndexFunc_int64_int64_AT_impl_echelon_1.l0lim ..)
noncomputable def slices_IndexFunc_int64_int64_AT_impl_echelon_1.d (l0 : List Int) (a1_0 : Int) : Option (Int) := lim (fun k => slices_IndexFunc_int64_int64_AT_impl_echelon_1.f k l0 a1_0)
theorem slices_IndexFunc_int64_int64_AT_impl_echelon_1.lim (l0 : List Int) (a1_0 : Int) : IsLim (fun k => slices_IndexFunc_int64_int64_AT_impl_echelon_1.f k l0 a1_0) (slices_IndexFunc_int64_int64_AT_impl_echelon_1.d l0 a1_0) := lim_spec (fun k => slices_IndexFunc_int64_int64_AT_impl_echelon_1.mono l0 a1_0 k)
theorem slices_IndexFunc_int64_int64_AT_impl_echelon_1.d_eq (l0 : List Int) (a1_0 : Int) : slices_IndexFunc_int64_int64_AT_impl_echelon_1.d l0 a1_0 = slices_IndexFunc_int64_int64_AT_impl_echelon_1.l0d l0 (l0.length : Int) 0 a1_0 := by
  refine IsLim.unique (slices_IndexFunc_int64_int64_AT_impl_echelon_1.lim _ _) ?_
  unfold slices_IndexFunc_int64_int64_AT_impl_echelon_1.f
  repeat' (first | exact IsLim.const _ | refine IsLim.ite ?_ ?_ | refine IsLim.bind ?_ (fun _ => ?_) | exact slices_IndexFunc_int64_int64_AT_impl_echelon_1.l0lim ..)
end Go.Proofs.Ytbalkaphibnpcaa.P
end
section
namespace Go.Proofs.Ytbalkaphibnpcaa.P
open Go.RowKit Go.Proofs.YtbalkaphibnpcaaW.PrintWords Go.Proofs.YtbalkaphibnpcaaW.PrintLast Go.Proofs.YtbalkaphibnpcaaW.PrintMore
set_option linter.unusedVariables false
set_option linter.unusedSimpArgs false
noncomputable def impl_echelon.l0d (x0 : List Int) (x3 : Int) (x625000 : Int) : Option (List Int) := lim (fun k => impl_echelon.l0 k x0 x3 x625000)
theorem impl_echelon.l0lim (x0 : List Int) (x3 : Int) (x625000 : Int) : IsLim (fun k => impl_echelon.l0 k x0 x3 x625000) (impl_echelon.l0d x0 x3 x625000) := lim_spec (fun k => (impl_echelon.mono_l k).1 x0 x3 x625000)
noncomputable def impl_echelon.j1d (x0 : List Int) (x3 : Int) (x16 : Bool) (x625000 : Int) : Option (List Int) := lim (fun k => impl_echelon.j1 k x0 x3 x16 x625000)
theorem impl_echelon.j1lim (x0 : List Int) (x3 : Int) (x16 : Bool) (x625000 : Int) : IsLim (fun k => impl_echelon.j1 k x0 x3 x16 x625000) (impl_echelon.j1d x0 x3 x16 x625000) := lim_spec (fun k => (impl_echelon.mono_l k).2.1 x0 x3 x16 x625000)
noncomputable def impl_echelon.l1d (x0 : List Int) (x3 : Int) (x45 : Int) (x46 : Int) (x625000 : Int) : Option (List Int) := lim (fun k => impl_echelon.l1 k x0 x3 x45 x46 x625000)
theorem impl_echelon.l1lim (x0 : List Int) (x3 : Int) (x45 : Int) (x46 : Int) (x625000 : Int) : IsLim (fun k => impl_echelon.l1 k x0 x3 x45 x46 x625000) (impl_echelon.l1d x0 x3 x45 x46 x625000) := lim_spec (fun k => (impl_echelon.mono_l k).2.2 x0 x3 x45 x46 x625000)
theorem impl_echelon.l0d_eq (x0 : List Int) (x3 : Int) (x625000 : Int) : impl_echelon.l0d x0 x3 x625000 = if x625000 < 62 then (impl_echelon.j1d x0 x3 (decide (x3 < (x0.length : Int))) x625000) else (impl_echelon.j1d x0 x3 false x625000) := by
  refine IsLim.unique (impl_echelon.l0lim _ _ _) ?_
  refine IsLim.shift (by rfl) ?_
  simp only [impl_echelon.l0]
  repeat' (first | exact IsLim.const _ | refine IsLim.ite ?_ ?_ | refine IsLim.bind ?_ (fun _ => ?_) | exact impl_echelon.j1lim ..)
theorem impl_echelon.j1d_eq (x0 : List Int) (x3 : Int) (x16 : Bool) (x625000 : Int) : impl_echelon.j1d x0 x3 x16 x625000 = if x16 = true then (if 0 ≤ x3 then (if x3 ≤ (x0.length : Int) then ((slices_IndexFunc_int64_int64_AT_impl_echelon_1.d (x0.drop (x3 : Int).toNat) x625000).bind fun t632 => (if t632 < 0 then (impl_echelon.l0d x0 x3 (wrap64 (x625000 + 1))) else (if 0 ≤ (wrap64 (x3 + t632)) then (if (wrap64 (x3 + t632)) < (x0.length : Int) then (if x3 < (x0.length : Int) then (impl_echelon.l1d ((x0.set (x3 : Int).toNat (rd x0 (wrap64 (x3 + t632)))).set ((wrap64 (x3 + t632)) : Int).toNat (rd x0 x3)) x3 (x0.length : Int) 0 x625000) else (none)) else (none)) else (none)))) else (none)) else (none)) else (if 0 ≤ x3 then (if x3 ≤ (x0.length : Int) then (some (x0.take (x3 : Int).toNat)) else (none)) else (none)) := by
  refine IsLim.unique (impl_echelon.j1lim _ _ _ _) ?_
  refine IsLim.shift (by rfl) ?_
  simp only [impl_echelon.j1]
  repeat' (first | exact IsLim.const _ | refine IsLim.ite ?_ ?_ | refine IsLim.bind ?_ (fun _ => ?_) | exact slices_IndexFunc_int64_int64_AT_impl_echelon_1.lim .. | exact impl_echelon.l0lim .. | exact impl_echelon.l1lim ..)
theorem impl_echelon.l1d_eq (x0 : List Int) (x3 : Int) (x45 : Int) (x46 : Int) (x625000 : Int) : impl_echelon.l1d x0 x3 x45 x46 x625000 = if x46 < x45 then (if x46 = x3 then (impl_echelon.l1d x0 x3 x45 (wrap64 (x46 + 1)) x625000) else (if 0 ≤ x46 then (if x46 < (x0.length : Int) then (if 0 ≤ x625000 then (if (Go.bits .and .i64 (shr .i64 (rd x0 x46) x625000) 1) = 1 then (if 0 ≤ x3 then (if x3 < (x0.length : Int) then (impl_echelon.l1d (x0.set (x46 : Int).toNat (Go.bits .xor .i64 (rd x0 x46) (rd x0 x3))) x3 x45 (wrap64 (x46 + 1)) x625000) else (none)) else (none)) else (impl_echelon.l1d x0 x3 x45 (wrap64 (x46 + 1)) x625000)) else (none)) else (none)) else (none))) else (impl_echelon.l0d x0 (wrap64 (x3 + 1)) (wrap64 (x625000 + 1))) := by
  refine IsLim.unique (impl_echelon.l1lim _ _ _ _ _) ?_
  refine IsLim.shift (by rfl) ?_
  simp only [impl_echelon.l1]
  repeat' (first | exact IsLim.const _ | refine IsLim.ite ?_ ?_ | refine IsLim.bind ?_ (fun _ => ?_) | exact impl_echelon.l1lim .. | exact impl_echelon.l0lim ..)
noncomputable def impl_echelon.d (l0 : List Int) : Option (List Int) := lim (fun k => impl_echelon.f k l0)
theorem impl_echelon.lim (l0 : List Int) : IsLim (fun k => impl_echelon.f k l0) (impl_echelon.d l0) := lim_spec (fun k => impl_echelon.mono l0 k)
theorem impl_echelon.d_eq (l0 : List Int) : impl_echelon.d l0 = (slices_Clone_int64_int64.f l0).bind fun t621 => (impl_echelon.l0d t621 0 0) := by
  refine IsLim.unique (impl_echelon.lim _) ?_
  unfold impl_echelon.f
  repeat' (first | exact IsLim.const _ | refine IsLim.ite ?_ ?_ | refine IsLim.bind ?_ (fun _ => ?_) | exact impl_echelon.l0lim ..)
end Go.Proofs.Ytbalkaphibnpcaa.P
end
section
namespace Go.Proofs.Ytbalkaphibnpcaa.P
open Go.RowKit Go.Proofs.YtbalkaphibnpcaaW.PrintWords Go.Proofs.YtbalkaphibnpcaaW.PrintLast Go.Proofs.YtbalkaphibnpcaaW.PrintMore
set_option linter.unusedVariables false
set_option linter.unusedSimpArgs false
noncomputable def impl_Matrix_sum.d (a0_0 : Int) (l0_1 : List Int) (a1_0 : Int) (l1_1 : List Int) : Option (Int × List Int) := lim (fun k => impl_Matrix_sum.f k a0_0 l0_1 a1_0 l1_1)
theorem impl_Matrix_sum.lim (a0_0 : Int) (l0_1 : List Int) (a1_0 : Int) (l1_1 : List Int) : IsLim (fun k => impl_Matrix_sum.f k a0_0 l0_1 a1_0 l1_1) (impl_Matrix_sum.d a0_0 l0_1 a1_0 l1_1) := lim_spec (fun k => impl_Matrix_sum.mono a0_0 l0_1 a1_0 l1_1 k)
theorem impl_Matrix_sum.d_eq (a0_0 : Int) (l0_1 : List Int) (a1_0 : Int) (l1_1 : List Int) : impl_Matrix_sum.d a0_0 l0_1 a1_0 l1_1 = (slices_Concat_int64_int64.f (([l0_1, l1_1] : List (List Int)))).bind fun t799 => ((impl_echelon.d t799).bind fun t802 => (some (a0_0, t802))) := by
  refine IsLim.unique (impl_Matrix_sum.lim _ _ _ _) ?_
  unfold impl_Matrix_sum.f
  repeat' (first | exact IsLim.const _ | refine IsLim.ite ?_ ?_ | refine IsLim.bind ?_ (fun _ => ?_) | exact impl_echelon.lim ..)
noncomputable def impl_Matrix_distance.d (a0_0 : Int) (l0_1 : List Int) (a1_0 : Int) (l1_1 : List Int) : Option (Int) := lim (fun k => impl_Matrix_distance.f k a0_0 l0_1 a1_0 l1_1)
theorem impl_Matrix_distance.lim (a0_0 : Int) (l0_1 : List Int) (a1_0 : Int) (l1_1 : List Int) : IsLim (fun k => impl_Matrix_distance.f k a0_0 l0_1 a1_0 l1_1) (impl_Matrix_distance.d a0_0 l0_1 a1_0 l1_1) := lim_spec (fun k => impl_Matrix_distance.mono a0_0 l0_1 a1_0 l1_1 k)
theorem impl_Matrix_distance.d_eq (a0_0 : Int) (l0_1 : List Int) (a1_0 : Int) (l1_1 : List Int) : impl_Matrix_distance.d a0_0 l0_1 a1_0 l1_1 = (impl_Matrix_sum.d a0_0 l0_1 a1_0 l1_1).bind fun bt807 => ((impl_size_int64_71.f bt807.2).bind fun t811 => ((impl_size_int64_71.f l0_1).bind fun t812 => ((impl_size_int64_71.f l1_1).bind fun t813 => (some (wrap64 ((wrap64 ((wrap64 (2 * t811)) - t812)) - t813)))))) := by
  refine IsLim.unique (impl_Matrix_distance.lim _ _ _ _) ?_
  unfold impl_Matrix_distance.f
  repeat' (first | exact IsLim.const _ | refine IsLim.ite ?_ ?_ | refine IsLim.bind ?_ (fun _ => ?_) | exact impl_Matrix_sum.lim ..)
end Go.Proofs.Ytbalkaphibnpcaa.P
end
section
namespace Go.Proofs.Ytbalkaphibnpcaa.P
open Go.RowKit Go.Proofs.YtbalkaphibnpcaaW.PrintWords Go.Proofs.YtbalkaphibnpcaaW.PrintLast Go.Proofs.YtbalkaphibnpcaaW.PrintMore
set_option linter.unusedVariables false
set_option linter.unusedSimpArgs false
noncomputable def slices_IndexFunc_int64_int64_AT_impl_ValidMatrix_1.l0d (x0 : List Int) (x7 : Int) (x8 : Int) (x49000 : Int) (x49001 : List Int) : Option (Int) := lim (fun k => slices_IndexFunc_int64_int64_AT_impl_ValidMatrix_1.l0 k x0 x7 x8 x49000 x49001)
theorem slices_IndexFunc_int64_int64_AT_impl_ValidMatrix_1.l0lim (x0 : List Int) (x7 : Int) (x8 : Int) (x49000 : Int) (x49001 : List Int) : IsLim (fun k => slices_IndexFunc_int64_int64_AT_impl_ValidMatrix_1.l0 k x0 x7 x8 x49000 x49001) (slices_IndexFunc_int64_int64_AT_impl_ValidMatrix_1.l0d x0 x7 x8 x49000 x49001) := lim_spec (fun k => (slices_IndexFunc_int64_int64_AT_impl_ValidMatrix_1.mono_l k) x0 x7 x8 x49000 x49001)
theorem slices_IndexFunc_int64_int64_AT_impl_ValidMatrix_1.l0d_eq (x0 : List Int) (x7 : Int) (x8 : Int) (x49000 : Int) (x49001 : List Int) : slices_IndexFunc_int64_int64_AT_impl_ValidMatrix_1.l0d x0 x7 x8 x49000 x49001 = if x8 < x7 then (if 0 ≤ x8 then (if x8 < (x0.length : Int) then ((impl_ValidMatrix_1.f (rd x0 x8) x49000 x49001).bind fun t647 => (if t647 = true then (some x8) else (slices_IndexFunc_int64_int64_AT_impl_ValidMatrix_1.l0d x0 x7 (wrap64 (x8 + 1)) x49000 x49001))) else (none)) else (none)) else (some (-1)) := by
  refine IsLim.unique (slices_IndexFunc_int64_int64_AT_impl_ValidMatrix_1.l0lim _ _ _ _ _) ?_
  refine IsLim.shift (by rfl) ?_
  simp only [slices_IndexFunc_int64_int64_AT_impl_ValidMatrix_1.l0]
  repeat' (first | exact IsLim.const _ | refine IsLim.ite ?_ ?_ | refine IsLim.bind ?_ (fun _ => ?_) | exact slices_IndexFunc_int64_int64_AT_impl_ValidMatrix_1.l0lim ..)
noncomputable def slices_IndexFunc_int64_int64_AT_impl_ValidMatrix_1.d (l0 : List Int) (a1_0 : Int) (l1_1 : List Int) : Option (Int) := lim (fun k => slices_IndexFunc_int64_int64_AT_impl_ValidMatrix_1.f k l0 a1_0 l1_1)
theorem slices_IndexFunc_int64_int64_AT_impl_ValidMatrix_1.lim (l0 : List Int) (a1_0 : Int) (l1_1 : List Int) : IsLim (fun k => slices_IndexFunc_int64_int64_AT_impl_ValidMatrix_1.f k l0 a1_0 l1_1) (slices_IndexFunc_int64_int64_AT_impl_ValidMatrix_1.d l0 a1_0 l1_1) := lim_spec (fun k => slices_IndexFunc_int64_int64_AT_impl_ValidMatrix_1.mono l0 a1_0 l1_1 k)
theorem slices_IndexFunc_int64_int64_AT_impl_ValidMatrix_1.d_eq (l0 : List Int) (a1_0 : Int) (l1_1 : List Int) : slices_IndexFunc_int64_int64_AT_impl_ValidMatrix_1.d l0 a1_0 l1_1 = slices_IndexFunc_int64_int64_AT_impl_ValidMatrix_1.l0d l0 (l0.length : Int) 0 a1_0 l1_1 := by
  refine IsLim.unique (slices_IndexFunc_int64_int64_AT_impl_ValidMatrix_1.lim _ _ _) ?_
  unfold slices_IndexFunc_int64_int64_AT_impl_ValidMatrix_1.f
  repeat' (first | exact IsLim.const _ | refine IsLim.ite ?_ ?_ | refine IsLim.bind ?_ (fun _ => ?_) | exact slices_IndexFunc_int64_int64_AT_impl_ValidMatrix_1.l0lim ..)
noncomputable def slices_ContainsFunc_int64_int64_AT_impl_ValidMatrix_1.d (l0 : List Int) (a1_0 : Int) (l1_1 : List Int) : Option (Bool) := lim (fun k => slices_ContainsFunc_int64_int64_AT_impl_ValidMatrix_1.f k l0 a1_0 l1_1)
theorem slices_ContainsFunc_int64_int64_AT_impl_ValidMatrix_1.lim (l0 : List Int) (a1_0 : Int) (l1_1 : List Int) : IsLim (fun k => slices_ContainsFunc_int64_int64_AT_impl_ValidMatrix_1.f k l0 a1_0 l1_1) (slices_ContainsFunc_int64_int64_AT_impl_ValidMatrix_1.d l0 a1_0 l1_1) := lim_spec (fun k => slices_ContainsFunc_int64_int64_AT_impl_ValidMatrix_1.mono l0 a1_0 l1_1 k)
theorem slices_ContainsFunc_int64_int64_AT_impl_ValidMatrix_1.d_eq (l0 : List Int) (a1_0 : Int) (l1_1 : List Int) : slices_ContainsFunc_int64_int64_AT_impl_ValidMatrix_1.d l0 a1_0 l1_1 = (slices_IndexFunc_int64_int64_AT_impl_ValidMatrix_1.d l0 a1_0 l1_1).bind fun t648 => (some (decide (t648 ≥ 0))) := by
  refine IsLim.unique (slices_ContainsFunc_int64_int64_AT_impl_ValidMatrix_1.lim _ _ _) ?_
  unfold slices_ContainsFunc_int64_int64_AT_impl_ValidMatrix_1.f
  repeat' (first | exact IsLim.const _ | refine IsLim.ite ?_ ?_ | refine IsLim.bind ?_ (fun _ => ?_) | exact slices_IndexFunc_int64_int64_AT_impl_ValidMatrix_1.lim ..)
noncomputable def impl_ValidMatrix.d (a0_0 : Int) (l0_1 : List Int) : Option (Bool) := lim (fun k => impl_ValidMatrix.f k a0_0 l0_1)
theorem impl_ValidMatrix.lim (a0_0 : Int) (l0_1 : List Int) : IsLim (fun k => impl_ValidMatrix.f k a0_0 l0_1) (impl_ValidMatrix.d a0_0 l0_1) := lim_spec (fun k => impl_ValidMatrix.mono a0_0 l0_1 k)
theorem impl_ValidMatrix.d_eq (a0_0 : Int) (l0_1 : List Int) : impl_ValidMatrix.d a0_0 l0_1 = (impl_within.f a0_0 1 10).bind fun t650 => (if t650 = true then (if (l0_1.length : Int) ≤ 10 then ((slices_ContainsFunc_int64_int64_AT_impl_ValidMatrix_1.d l0_1 a0_0 l0_1).bind fun t651 => (some (!t651))) else (some false)) else (some false)) := by
  refine IsLim.unique (impl_ValidMatrix.lim _ _) ?_
  unfold impl_ValidMatrix.f
  repeat' (first | exact IsLim.const _ | refine IsLim.ite ?_ ?_ | refine IsLim.bind ?_ (fun _ => ?_) | exact slices_ContainsFunc_int64_int64_AT_impl_ValidMatrix_1.lim ..)
noncomputable def slices_Equal_int64_int64.l0d (x0 : List Int) (x1 : List Int) (x12 : Int) (x13 : Int) : Option (Bool) := lim (fun k => slices_Equal_int64_int64.l0 k x0 x1 x12 x13)
theorem slices_Equal_int64_int64.l0lim (x0 : List Int) (x1 : List Int) (x12 : Int) (x13 : Int) : IsLim (fun k => slices_Equal_int64_int64.l0 k x0 x1 x12 x13) (slices_Equal_int64_int64.l0d x0 x1 x12 x13) := lim_spec (fun k => (slices_Equal_int64_int64.mono_l k) x0 x1 x12 x13)
theorem slices_Equal_int64_int64.l0d_eq (x0 : List Int) (x1 : List Int) (x12 : Int) (x13 : Int) : slices_Equal_int64_int64.l0d x0 x1 x12 x13 = if x13 < x12 then (if 0 ≤ x13 then (if x13 < (x0.length : Int) then (if x13 < (x1.length : Int) then (if (rd x0 x13) = (rd x1 x13) then (slices_Equal_int64_int64.l0d x0 x1 x12 (wrap64 (x13 + 1))) else (some false)) else (none)) else (none)) else (none)) else (some true) := by
  refine IsLim.unique (slices_Equal_int64_int64.l0lim _ _ _ _) ?_
  refine IsLim.shift (by rfl) ?_
  simp only [slices_Equal_int64_int64.l0]
  repeat' (first | exact IsLim.const _ | refine IsLim.ite ?_ ?_ | refine IsLim.bind ?_ (fun _ => ?_) | exact slices_Equal_int64_int64.l0lim ..)
noncomputable def slices_Equal_int64_int64.d (l0 : List Int) (l1 : List Int) : Option (Bool) := lim (fun k => slices_Equal_int64_int64.f k l0 l1)
theorem slices_Equal_int64_int64.lim (l0 : List Int) (l1 : List Int) : IsLim (fun k => slices_Equal_int64_int64.f k l0 l1) (slices_Equal_int64_int64.d l0 l1) := lim_spec (fun k => slices_Equal_int64_int64.mono l0 l1 k)
theorem slices_Equal_int64_int64.d_eq (l0 : List Int) (l1 : List Int) : slices_Equal_int64_int64.d l0 l1 = if (l0.length : Int) = (l1.length : Int) then (slices_Equal_int64_int64.l0d l0 l1 (l0.length : Int) 0) else (some false) := by
  refine IsLim.unique (slices_Equal_int64_int64.lim _ _) ?_
  unfold slices_Equal_int64_int64.f
  repeat' (first | exact IsLim.const _ | refine IsLim.ite ?_ ?_ | refine IsLim.bind ?_ (fun _ => ?_) | exact slices_Equal_int64_int64.l0lim ..)
noncomputable def impl_IsSpace.d (a0_0 : Int) (l0_1 : List Int) : Option (Bool) := lim (fun k => impl_IsSpace.f k a0_0 l0_1)
theorem impl_IsSpace.lim (a0_0 : Int) (l0_1 : List Int) : IsLim (fun k => impl_IsSpace.f k a0_0 l0_1) (impl_IsSpace.d a0_0 l0_1) := lim_spec (fun k => impl_IsSpace.mono a0_0 l0_1 k)
theorem impl_IsSpace.d_eq (a0_0 : Int) (l0_1 : List Int) : impl_IsSpace.d a0_0 l0_1 = (impl_ValidMatrix.d a0_0 l0_1).bind fun t655 => (if t655 = true then ((impl_echelon.d l0_1).bind fun t656 => ((slices_Equal_int64_int64.d t656 l0_1).bind fun t659 => (some t659))) else (some false)) := by
  refine IsLim.unique (impl_IsSpace.lim _ _) ?_
  unfold impl_IsSpace.f
  repeat' (first | exact IsLim.const _ | refine IsLim.ite ?_ ?_ | refine IsLim.bind ?_ (fun _ => ?_) | exact impl_ValidMatrix.lim .. | exact impl_echelon.lim .. | exact slices_Equal_int64_int64.lim ..)
end Go.Proofs.Ytbalkaphibnpcaa.P
end
section
namespace Go.Proofs.Ytbalkaphibnpcaa.P
open Go.RowKit Go.Proofs.YtbalkaphibnpcaaW.PrintWords Go.Proofs.YtbalkaphibnpcaaW.PrintLast Go.Proofs.YtbalkaphibnpcaaW.PrintMore
set_option linter.unusedVariables false
set_option linter.unusedSimpArgs false
noncomputable def impl_SameMatrix.d (a0_0 : Int) (l0_1 : List Int) (a1_0 : Int) (l1_1 : List Int) : Option (Bool) := lim (fun k => impl_SameMatrix.f k a0_0 l0_1 a1_0 l1_1)
theorem impl_SameMatrix.lim (a0_0 : Int) (l0_1 : List Int) (a1_0 : Int) (l1_1 : List Int) : IsLim (fun k => impl_SameMatrix.f k a0_0 l0_1 a1_0 l1_1) (impl_SameMatrix.d a0_0 l0_1 a1_0 l1_1) := lim_spec (fun k => impl_SameMatrix.mono a0_0 l0_1 a1_0 l1_1 k)
theorem impl_SameMatrix.d_eq (a0_0 : Int) (l0_1 : List Int) (a1_0 : Int) (l1_1 : List Int) : impl_SameMatrix.d a0_0 l0_1 a1_0 l1_1 = if a0_0 = a1_0 then ((slices_Equal_int64_int64.d l0_1 l1_1).bind fun t662 => (some t662)) else (some false) := by
  refine IsLim.unique (impl_SameMatrix.lim _ _ _ _) ?_
  unfold impl_SameMatrix.f
  repeat' (first | exact IsLim.const _ | refine IsLim.ite ?_ ?_ | refine IsLim.bind ?_ (fun _ => ?_) | exact slices_Equal_int64_int64.lim ..)
end Go.Proofs.Ytbalkaphibnpcaa.P
end
section
namespace Go.Proofs.Ytbalkaphibnpcaa.P
open Go.RowKit Go.Proofs.YtbalkaphibnpcaaW.PrintWords Go.Proofs.YtbalkaphibnpcaaW.PrintLast Go.Proofs.YtbalkaphibnpcaaW.PrintMore
set_option linter.unusedVariables false
set_option linter.unusedSimpArgs false
noncomputable def impl_ValidSpaces.l0d (x0 : List (S63)) (x11 : List (S63)) (x12 : Int) (x13 : Int) : Option (Bool) := lim (fun k => impl_ValidSpaces.l0 k x0 x11 x12 x13)
theorem impl_ValidSpaces.l0lim (x0 : List (S63)) (x11 : List (S63)) (x12 : Int) (x13 : Int) : IsLim (fun k => impl_ValidSpaces.l0 k x0 x11 x12 x13) (impl_ValidSpaces.l0d x0 x11 x12 x13) := lim_spec (fun k => (impl_ValidSpaces.mono_l k).1 x0 x11 x12 x13)
noncomputable def impl_ValidSpaces.j1d (x0 : List (S63)) (x3 : Int) (x11 : List (S63)) (x12 : Int) (x13 : Int) (x40 : Bool) (x667000 : Int) (x667001 : List Int) : Option (Bool) := lim (fun k => impl_ValidSpaces.j1 k x0 x3 x11 x12 x13 x40 x667000 x667001)
theorem impl_ValidSpaces.j1lim (x0 : List (S63)) (x3 : Int) (x11 : List (S63)) (x12 : Int) (x13 : Int) (x40 : Bool) (x667000 : Int) (x667001 : List Int) : IsLim (fun k => impl_ValidSpaces.j1 k x0 x3 x11 x12 x13 x40 x667000 x667001) (impl_ValidSpaces.j1d x0 x3 x11 x12 x13 x40 x667000 x667001) := lim_spec (fun k => (impl_ValidSpaces.mono_l k).2.1 x0 x3 x11 x12 x13 x40 x667000 x667001)
noncomputable def impl_ValidSpaces.l1d (x0 : List (S63)) (x11 : List (S63)) (x12 : Int) (x13 : Int) (x43 : List (S63)) (x44 : Int) (x45 : Int) (x667000 : Int) (x667001 : List Int) : Option (Bool) := lim (fun k => impl_ValidSpaces.l1 k x0 x11 x12 x13 x43 x44 x45 x667000 x667001)
theorem impl_ValidSpaces.l1lim (x0 : List (S63)) (x11 : List (S63)) (x12 : Int) (x13 : Int) (x43 : List (S63)) (x44 : Int) (x45 : Int) (x667000 : Int) (x667001 : List Int) : IsLim (fun k => impl_ValidSpaces.l1 k x0 x11 x12 x13 x43 x44 x45 x667000 x667001) (impl_ValidSpaces.l1d x0 x11 x12 x13 x43 x44 x45 x667000 x667001) := lim_spec (fun k => (impl_ValidSpaces.mono_l k).2.2 x0 x11 x12 x13 x43 x44 x45 x667000 x667001)
theorem impl_ValidSpaces.l0d_eq (x0 : List (S63)) (x11 : List (S63)) (x12 : Int) (x13 : Int) : impl_ValidSpaces.l0d x0 x11 x12 x13 = if x13 < x12 then (if 0 ≤ x13 then (if x13 < (x11.length : Int) then ((impl_IsSpace.d ((rd_T63 x11 x13).f0) ((rd_T63 x11 x13).f1)).bind fun t667 => (if t667 = true then (if 0 < (x0.length : Int) then (if ((rd_T63 x11 x13).f0) = ((rd_T63 x0 0).f0) then (impl_ValidSpaces.j1d x0 x13 x11 x12 x13 ((((rd_T63 x11 x13).f1).length : Int) != (((rd_T63 x0 0).f1).length : Int)) ((rd_T63 x11 x13).f0) ((rd_T63 x11 x13).f1)) else (impl_ValidSpaces.j1d x0 x13 x11 x12 x13 true ((rd_T63 x11 x13).f0) ((rd_T63 x11 x13).f1))) else (none)) else (impl_ValidSpaces.j1d x0 x13 x11 x12 x13 true ((rd_T63 x11 x13).f0) ((rd_T63 x11 x13).f1)))) else (none)) else (none)) else (some true) := by
  refine IsLim.unique (impl_ValidSpaces.l0lim _ _ _ _) ?_
  refine IsLim.shift (by rfl) ?_
  simp only [impl_ValidSpaces.l0]
  repeat' (first | exact IsLim.const _ | refine IsLim.ite ?_ ?_ | refine IsLim.bind ?_ (fun _ => ?_) | exact impl_IsSpace.lim .. | exact impl_ValidSpaces.j1lim ..)
theorem impl_ValidSpaces.j1d_eq (x0 : List (S63)) (x3 : Int) (x11 : List (S63)) (x12 : Int) (x13 : Int) (x40 : Bool) (x667000 : Int) (x667001 : List Int) : impl_ValidSpaces.j1d x0 x3 x11 x12 x13 x40 x667000 x667001 = if x40 = true then (some false) else (if 0 ≤ x3 then (if x3 ≤ (x0.length : Int) then ((some (x0.take (x3 : Int).toNat : List (S63))).bind fun y670 => (impl_ValidSpaces.l1d x0 x11 x12 x13 y670 (y670.length : Int) 0 x667000 x667001)) else (none)) else (none)) := by
  refine IsLim.unique (impl_ValidSpaces.j1lim _ _ _ _ _ _ _ _) ?_
  refine IsLim.shift (by rfl) ?_
  simp only [impl_ValidSpaces.j1]
  repeat' (first | exact IsLim.const _ | refine IsLim.ite ?_ ?_ | refine IsLim.bind ?_ (fun _ => ?_) | exact impl_ValidSpaces.l1lim ..)
theorem impl_ValidSpaces.l1d_eq (x0 : List (S63)) (x11 : List (S63)) (x12 : Int) (x13 : Int) (x43 : List (S63)) (x44 : Int) (x45 : Int) (x667000 : Int) (x667001 : List Int) : impl_ValidSpaces.l1d x0 x11 x12 x13 x43 x44 x45 x667000 x667001 = if x45 < x44 then (if 0 ≤ x45 then (if x45 < (x43.length : Int) then ((impl_SameMatrix.d x667000 x667001 ((rd_T63 x43 x45).f0) ((rd_T63 x43 x45).f1)).bind fun t676 => (if t676 = true then (some false) else (impl_ValidSpaces.l1d x0 x11 x12 x13 x43 x44 (wrap64 (x45 + 1)) x667000 x667001))) else (none)) else (none)) else (impl_ValidSpaces.l0d x0 x11 x12 (wrap64 (x13 + 1))) := by
  refine IsLim.unique (impl_ValidSpaces.l1lim _ _ _ _ _ _ _ _ _) ?_
  refine IsLim.shift (by rfl) ?_
  simp only [impl_ValidSpaces.l1]
  repeat' (first | exact IsLim.const _ | refine IsLim.ite ?_ ?_ | refine IsLim.bind ?_ (fun _ => ?_) | exact impl_SameMatrix.lim .. | exact impl_ValidSpaces.l1lim .. | exact impl_ValidSpaces.l0lim ..)
noncomputable def impl_ValidSpaces.d (l0 : List (S63)) : Option (Bool) := lim (fun k => impl_ValidSpaces.f k l0)
theorem impl_ValidSpaces.lim (l0 : List (S63)) : IsLim (fun k => impl_ValidSpaces.f k l0) (impl_ValidSpaces.d l0) := lim_spec (fun k => impl_ValidSpaces.mono l0 k)
theorem impl_ValidSpaces.d_eq (l0 : List (S63)) : impl_ValidSpaces.d l0 = (impl_Matrix.f l0).bind fun t663 => ((impl_within.f t663 1 400).bind fun t664 => (if t664 = true then (impl_ValidSpaces.l0d l0 l0 (l0.length : Int) 0) else (some false))) := by
  refine IsLim.unique (impl_ValidSpaces.lim _) ?_
  unfold impl_ValidSpaces.f
  repeat' (first | exact IsLim.const _ | refine IsLim.ite ?_ ?_ | refine IsLim.bind ?_ (fun _ => ?_) | exact impl_ValidSpaces.l0lim ..)
end Go.Proofs.Ytbalkaphibnpcaa.P
end
section
namespace Go.Proofs.Ytbalkaphibnpcaa.P
open Go.RowKit Go.Proofs.YtbalkaphibnpcaaW.PrintWords Go.Proofs.YtbalkaphibnpcaaW.PrintLast Go.Proofs.YtbalkaphibnpcaaW.PrintMore
set_option linter.unusedVariables false
set_option linter.unusedSimpArgs false
noncomputable def impl_NearestSpaces.j0d (x0 : List (S63)) (x12 : Bool) (x815000 : Int) (x815001 : List Int) : Option (Int × List Int × Int) := lim (fun k => impl_NearestSpaces.j0 k x0 x12 x815000 x815001)
theorem impl_NearestSpaces.j0lim (x0 : List (S63)) (x12 : Bool) (x815000 : Int) (x815001 : List Int) : IsLim (fun k => impl_NearestSpaces.j0 k x0 x12 x815000 x815001) (impl_NearestSpaces.j0d x0 x12 x815000 x815001) := lim_spec (fun k => (impl_NearestSpaces.mono_l k).1 x0 x12 x815000 x815001)
noncomputable def impl_NearestSpaces.l0d (x7 : Int) (x8 : List Int) (x30 : List (S63)) (x31 : Int) (x32 : Int) (x815000 : Int) (x815001 : List Int) : Option (Int × List Int × Int) := lim (fun k => impl_NearestSpaces.l0 k x7 x8 x30 x31 x32 x815000 x815001)
theorem impl_NearestSpaces.l0lim (x7 : Int) (x8 : List Int) (x30 : List (S63)) (x31 : Int) (x32 : Int) (x815000 : Int) (x815001 : List Int) : IsLim (fun k => impl_NearestSpaces.l0 k x7 x8 x30 x31 x32 x815000 x815001) (impl_NearestSpaces.l0d x7 x8 x30 x31 x32 x815000 x815001) := lim_spec (fun k => (impl_NearestSpaces.mono_l k).2 x7 x8 x30 x31 x32 x815000 x815001)
theorem impl_NearestSpaces.j0d_eq (x0 : List (S63)) (x12 : Bool) (x815000 : Int) (x815001 : List Int) : impl_NearestSpaces.j0d x0 x12 x815000 x815001 = if x12 = true then (some (0, ([] : List Int), 1)) else (if 0 < (x0.length : Int) then (if x815000 = ((rd_T63 x0 0).f0) then (impl_NearestSpaces.l0d 20 (([] : List Int)) x0 (x0.length : Int) 0 x815000 x815001) else (some (0, ([] : List Int), 2))) else (none)) := by
  refine IsLim.unique (impl_NearestSpaces.j0lim _ _ _ _) ?_
  refine IsLim.shift (by rfl) ?_
  simp only [impl_NearestSpaces.j0]
  repeat' (first | exact IsLim.const _ | refine IsLim.ite ?_ ?_ | refine IsLim.bind ?_ (fun _ => ?_) | exact impl_NearestSpaces.l0lim ..)
theorem impl_NearestSpaces.l0d_eq (x7 : Int) (x8 : List Int) (x30 : List (S63)) (x31 : Int) (x32 : Int) (x815000 : Int) (x815001 : List Int) : impl_NearestSpaces.l0d x7 x8 x30 x31 x32 x815000 x815001 = if x32 < x31 then (if 0 ≤ x32 then (if x32 < (x30.length : Int) then ((impl_Matrix_distance.d x815000 x815001 ((rd_T63 x30 x32).f0) ((rd_T63 x30 x32).f1)).bind fun t823 => (if t823 < x7 then (if ([] : List Int).length < 17592186044416 then (impl_NearestSpaces.l0d t823 (([] : List Int) ++ [x32]) x30 x31 (wrap64 (x32 + 1)) x815000 x815001) else (none)) else (if t823 = x7 then (if x8.length < 17592186044416 then (impl_NearestSpaces.l0d x7 (x8 ++ [x32]) x30 x31 (wrap64 (x32 + 1)) x815000 x815001) else (none)) else (impl_NearestSpaces.l0d x7 x8 x30 x31 (wrap64 (x32 + 1)) x815000 x815001)))) else (none)) else (none)) else (some (x7, x8, 0)) := by
  refine IsLim.unique (impl_NearestSpaces.l0lim _ _ _ _ _ _ _) ?_
  refine IsLim.shift (by rfl) ?_
  simp only [impl_NearestSpaces.l0]
  repeat' (first | exact IsLim.const _ | refine IsLim.ite ?_ ?_ | refine IsLim.bind ?_ (fun _ => ?_) | exact impl_Matrix_distance.lim .. | exact impl_NearestSpaces.l0lim ..)
noncomputable def impl_NearestSpaces.d (l0 : List (S63)) (a1_0 : Int) (l1_1 : List Int) : Option (Int × List Int × Int) := lim (fun k => impl_NearestSpaces.f k l0 a1_0 l1_1)
theorem impl_NearestSpaces.lim (l0 : List (S63)) (a1_0 : Int) (l1_1 : List Int) : IsLim (fun k => impl_NearestSpaces.f k l0 a1_0 l1_1) (impl_NearestSpaces.d l0 a1_0 l1_1) := lim_spec (fun k => impl_NearestSpaces.mono l0 a1_0 l1_1 k)
theorem impl_NearestSpaces.d_eq (l0 : List (S63)) (a1_0 : Int) (l1_1 : List Int) : impl_NearestSpaces.d l0 a1_0 l1_1 = (impl_ValidSpaces.d l0).bind fun t815 => (if t815 = true then ((impl_IsSpace.d a1_0 l1_1).bind fun t816 => (impl_NearestSpaces.j0d l0 (!t816) a1_0 l1_1)) else (impl_NearestSpaces.j0d l0 true a1_0 l1_1)) := by
  refine IsLim.unique (impl_NearestSpaces.lim _ _ _) ?_
  unfold impl_NearestSpaces.f
  repeat' (first | exact IsLim.const _ | refine IsLim.ite ?_ ?_ | refine IsLim.bind ?_ (fun _ => ?_) | exact impl_ValidSpaces.lim .. | exact impl_IsSpace.lim .. | exact impl_NearestSpaces.j0lim ..)
end Go.Proofs.Ytbalkaphibnpcaa.P
end
section
namespace Go.Proofs.Ytbalkaphibnpcaa.P
open Go.RowKit Go.Proofs.YtbalkaphibnpcaaW.PrintWords Go.Proofs.YtbalkaphibnpcaaW.PrintLast Go.Proofs.YtbalkaphibnpcaaW.PrintMore
set_option linter.unusedVariables false
set_option linter.unusedSimpArgs false
noncomputable def laws_markInt64S.l0d (x0 : List Int) (x1 : Int) (x5 : Int) : Option (Int × List Int) := lim (fun k => laws_markInt64S.l0 k x0 x1 x5)
theorem laws_markInt64S.l0lim (x0 : List Int) (x1 : Int) (x5 : Int) : IsLim (fun k => laws_markInt64S.l0 k x0 x1 x5) (laws_markInt64S.l0d x0 x1 x5) := lim_spec (fun k => (laws_markInt64S.mono_l k) x0 x1 x5)
theorem laws_markInt64S.l0d_eq (x0 : List Int) (x1 : Int) (x5 : Int) : laws_markInt64S.l0d x0 x1 x5 = if x5 < (x0.length : Int) then (if 0 ≤ x5 then (laws_markInt64S.l0d (x0.set (x5 : Int).toNat x1) (wrap64 (x1 + 1)) (wrap64 (x5 + 1))) else (none)) else (some (x1, x0)) := by
  refine IsLim.unique (laws_markInt64S.l0lim _ _ _) ?_
  refine IsLim.shift (by rfl) ?_
  simp only [laws_markInt64S.l0]
  repeat' (first | exact IsLim.const _ | refine IsLim.ite ?_ ?_ | refine IsLim.bind ?_ (fun _ => ?_) | exact laws_markInt64S.l0lim ..)
noncomputable def laws_markInt64S.d (l0 : List Int) (a1 : Int) : Option (Int × List Int) := lim (fun k => laws_markInt64S.f k l0 a1)
theorem laws_markInt64S.lim (l0 : List Int) (a1 : Int) : IsLim (fun k => laws_markInt64S.f k l0 a1) (laws_markInt64S.d l0 a1) := lim_spec (fun k => laws_markInt64S.mono l0 a1 k)
theorem laws_markInt64S.d_eq (l0 : List Int) (a1 : Int) : laws_markInt64S.d l0 a1 = laws_markInt64S.l0d l0 a1 0 := by
  refine IsLim.unique (laws_markInt64S.lim _ _) ?_
  unfold laws_markInt64S.f
  repeat' (first | exact IsLim.const _ | refine IsLim.ite ?_ ?_ | refine IsLim.bind ?_ (fun _ => ?_) | exact laws_markInt64S.l0lim ..)
noncomputable def laws_heldInt64S.l0d (x0 : List Int) (x1 : Int) (x5 : Int) : Option (Int) := lim (fun k => laws_heldInt64S.l0 k x0 x1 x5)
theorem laws_heldInt64S.l0lim (x0 : List Int) (x1 : Int) (x5 : Int) : IsLim (fun k => laws_heldInt64S.l0 k x0 x1 x5) (laws_heldInt64S.l0d x0 x1 x5) := lim_spec (fun k => (laws_heldInt64S.mono_l k) x0 x1 x5)
theorem laws_heldInt64S.l0d_eq (x0 : List Int) (x1 : Int) (x5 : Int) : laws_heldInt64S.l0d x0 x1 x5 = if x5 < (x0.length : Int) then (if 0 ≤ x5 then (if (rd x0 x5) = x1 then (laws_heldInt64S.l0d x0 (wrap64 (x1 + 1)) (wrap64 (x5 + 1))) else (some (-1))) else (none)) else (some x1) := by
  refine IsLim.unique (laws_heldInt64S.l0lim _ _ _) ?_
  refine IsLim.shift (by rfl) ?_
  simp only [laws_heldInt64S.l0]
  repeat' (first | exact IsLim.const _ | refine IsLim.ite ?_ ?_ | refine IsLim.bind ?_ (fun _ => ?_) | exact laws_heldInt64S.l0lim ..)
noncomputable def laws_heldInt64S.d (l0 : List Int) (a1 : Int) : Option (Int) := lim (fun k => laws_heldInt64S.f k l0 a1)
theorem laws_heldInt64S.lim (l0 : List Int) (a1 : Int) : IsLim (fun k => laws_heldInt64S.f k l0 a1) (laws_heldInt64S.d l0 a1) := lim_spec (fun k => laws_heldInt64S.mono l0 a1 k)
theorem laws_heldInt64S.d_eq (l0 : List Int) (a1 : Int) : laws_heldInt64S.d l0 a1 = laws_heldInt64S.l0d l0 a1 0 := by
  refine IsLim.unique (laws_heldInt64S.lim _ _) ?_
  unfold laws_heldInt64S.f
  repeat' (first | exact IsLim.const _ | refine IsLim.ite ?_ ?_ | refine IsLim.bind ?_ (fun _ => ?_) | exact laws_heldInt64S.l0lim ..)
end Go.Proofs.Ytbalkaphibnpcaa.P
end
section
namespace Go.Proofs.Ytbalkaphibnpcaa.P
open Go.RowKit Go.Proofs.YtbalkaphibnpcaaW.PrintWords Go.Proofs.YtbalkaphibnpcaaW.PrintLast Go.Proofs.YtbalkaphibnpcaaW.PrintMore
set_option linter.unusedVariables false
set_option linter.unusedSimpArgs false
noncomputable def laws_markMatrix.d (a0_0 : Int) (l0_1 : List Int) (a1 : Int) : Option (Int × List Int) := lim (fun k => laws_markMatrix.f k a0_0 l0_1 a1)
theorem laws_markMatrix.lim (a0_0 : Int) (l0_1 : List Int) (a1 : Int) : IsLim (fun k => laws_markMatrix.f k a0_0 l0_1 a1) (laws_markMatrix.d a0_0 l0_1 a1) := lim_spec (fun k => laws_markMatrix.mono a0_0 l0_1 a1 k)
theorem laws_markMatrix.d_eq (a0_0 : Int) (l0_1 : List Int) (a1 : Int) : laws_markMatrix.d a0_0 l0_1 a1 = (laws_markInt64S.d l0_1 a1).bind fun bt831 => (some (bt831.1, bt831.2)) := by
  refine IsLim.unique (laws_markMatrix.lim _ _ _) ?_
  unfold laws_markMatrix.f
  repeat' (first | exact IsLim.const _ | refine IsLim.ite ?_ ?_ | refine IsLim.bind ?_ (fun _ => ?_) | exact laws_markInt64S.lim ..)
end Go.Proofs.Ytbalkaphibnpcaa.P
end
section
namespace Go.Proofs.Ytbalkaphibnpcaa.P
open Go.RowKit Go.Proofs.YtbalkaphibnpcaaW.PrintWords Go.Proofs.YtbalkaphibnpcaaW.PrintLast Go.Proofs.YtbalkaphibnpcaaW.PrintMore
set_option linter.unusedVariables false
set_option linter.unusedSimpArgs false
noncomputable def laws_eqMatrix.d (a0_0 : Int) (l0_1 : List Int) (a1_0 : Int) (l1_1 : List Int) : Option (Bool) := lim (fun k => laws_eqMatrix.f k a0_0 l0_1 a1_0 l1_1)
theorem laws_eqMatrix.lim (a0_0 : Int) (l0_1 : List Int) (a1_0 : Int) (l1_1 : List Int) : IsLim (fun k => laws_eqMatrix.f k a0_0 l0_1 a1_0 l1_1) (laws_eqMatrix.d a0_0 l0_1 a1_0 l1_1) := lim_spec (fun k => laws_eqMatrix.mono a0_0 l0_1 a1_0 l1_1 k)
theorem laws_eqMatrix.d_eq (a0_0 : Int) (l0_1 : List Int) (a1_0 : Int) (l1_1 : List Int) : laws_eqMatrix.d a0_0 l0_1 a1_0 l1_1 = if a0_0 = a1_0 then ((laws_eqInt64S.d l0_1 l1_1).bind fun t714 => (if t714 = true then (some true) else (some false))) else (some false) := by
  refine IsLim.unique (laws_eqMatrix.lim _ _ _ _) ?_
  unfold laws_eqMatrix.f
  repeat' (first | exact IsLim.const _ | refine IsLim.ite ?_ ?_ | refine IsLim.bind ?_ (fun _ => ?_) | exact laws_eqInt64S.lim ..)
noncomputable def laws_eqMatrixS.l0d (x0 : List (S63)) (x1 : List (S63)) (x5 : Int) : Option (Bool) := lim (fun k => laws_eqMatrixS.l0 k x0 x1 x5)
theorem laws_eqMatrixS.l0lim (x0 : List (S63)) (x1 : List (S63)) (x5 : Int) : IsLim (fun k => laws_eqMatrixS.l0 k x0 x1 x5) (laws_eqMatrixS.l0d x0 x1 x5) := lim_spec (fun k => (laws_eqMatrixS.mono_l k) x0 x1 x5)
theorem laws_eqMatrixS.l0d_eq (x0 : List (S63)) (x1 : List (S63)) (x5 : Int) : laws_eqMatrixS.l0d x0 x1 x5 = if x5 < (x0.length : Int) then (if 0 ≤ x5 then (if x5 < (x1.length : Int) then ((laws_eqMatrix.d ((rd_T63 x0 x5).f0) ((rd_T63 x0 x5).f1) ((rd_T63 x1 x5).f0) ((rd_T63 x1 x5).f1)).bind fun t717 => (if t717 = true then (laws_eqMatrixS.l0d x0 x1 (wrap64 (x5 + 1))) else (some false))) else (none)) else (none)) else (some true) := by
  refine IsLim.unique (laws_eqMatrixS.l0lim _ _ _) ?_
  refine IsLim.shift (by rfl) ?_
  simp only [laws_eqMatrixS.l0]
  repeat' (first | exact IsLim.const _ | refine IsLim.ite ?_ ?_ | refine IsLim.bind ?_ (fun _ => ?_) | exact laws_eqMatrix.lim .. | exact laws_eqMatrixS.l0lim ..)
noncomputable def laws_eqMatrixS.d (l0 : List (S63)) (l1 : List (S63)) : Option (Bool) := lim (fun k => laws_eqMatrixS.f k l0 l1)
theorem laws_eqMatrixS.lim (l0 : List (S63)) (l1 : List (S63)) : IsLim (fun k => laws_eqMatrixS.f k l0 l1) (laws_eqMatrixS.d l0 l1) := lim_spec (fun k => laws_eqMatrixS.mono l0 l1 k)
theorem laws_eqMatrixS.d_eq (l0 : List (S63)) (l1 : List (S63)) : laws_eqMatrixS.d l0 l1 = if (l0.length : Int) = (l1.length : Int) then (laws_eqMatrixS.l0d l0 l1 0) else (some false) := by
  refine IsLim.unique (laws_eqMatrixS.lim _ _) ?_
  unfold laws_eqMatrixS.f
  repeat' (first | exact IsLim.const _ | refine IsLim.ite ?_ ?_ | refine IsLim.bind ?_ (fun _ => ?_) | exact laws_eqMatrixS.l0lim ..)
noncomputable def laws_markMatrixS.l0d (x0 : List S63) (x1 : Int) (x5 : Int) : Option (Int × List S63) := lim (fun k => laws_markMatrixS.l0 k x0 x1 x5)
theorem laws_markMatrixS.l0lim (x0 : List S63) (x1 : Int) (x5 : Int) : IsLim (fun k => laws_markMatrixS.l0 k x0 x1 x5) (laws_markMatrixS.l0d x0 x1 x5) := lim_spec (fun k => (laws_markMatrixS.mono_l k) x0 x1 x5)
theorem laws_markMatrixS.l0d_eq (x0 : List S63) (x1 : Int) (x5 : Int) : laws_markMatrixS.l0d x0 x1 x5 = if x5 < (x0.length : Int) then (if 0 ≤ x5 then ((laws_markInt64S.d (rd_T63 x0 x5).f1 (wrap64 (x1 + 1))).bind fun bt => (laws_markMatrixS.l0d (x0.set x5.toNat ⟨x1, bt.2⟩) bt.1 (wrap64 (x5 + 1)))) else (none)) else (some (x1, x0)) := by
  refine IsLim.unique (laws_markMatrixS.l0lim _ _ _) ?_
  refine IsLim.shift (by rfl) ?_
  simp only [laws_markMatrixS.l0]
  repeat' (first | exact IsLim.const _ | refine IsLim.ite ?_ ?_ | refine IsLim.bind ?_ (fun _ => ?_) | exact laws_markInt64S.lim .. | exact laws_markMatrixS.l0lim ..)
noncomputable def laws_markMatrixS.d (l0 : List S63) (a1 : Int) : Option (Int × List S63) := lim (fun k => laws_markMatrixS.f k l0 a1)
theorem laws_markMatrixS.lim (l0 : List S63) (a1 : Int) : IsLim (fun k => laws_markMatrixS.f k l0 a1) (laws_markMatrixS.d l0 a1) := lim_spec (fun k => laws_markMatrixS.mono l0 a1 k)
theorem laws_markMatrixS.d_eq (l0 : List S63) (a1 : Int) : laws_markMatrixS.d l0 a1 = laws_markMatrixS.l0d l0 a1 0 := by
  refine IsLim.unique (laws_markMatrixS.lim _ _) ?_
  unfold laws_markMatrixS.f
  repeat' (first | exact IsLim.const _ | refine IsLim.ite ?_ ?_ | refine IsLim.bind ?_ (fun _ => ?_) | exact laws_markMatrixS.l0lim ..)
end Go.Proofs.Ytbalkaphibnpcaa.P
end
section
namespace Go.Proofs.Ytbalkaphibnpcaa.P
open Go.RowKit Go.Proofs.YtbalkaphibnpcaaW.PrintWords Go.Proofs.YtbalkaphibnpcaaW.PrintLast Go.Proofs.YtbalkaphibnpcaaW.PrintMore
set_option linter.unusedVariables false
set_option linter.unusedSimpArgs false
noncomputable def laws_FnExactNearestSpaces.j0d (x0 : List (S59)) (x6 : Int) (x7 : List Int) (x8 : Int) (x9 : List (S63)) (x11 : Int) (x12 : List Int) (x13 : Int) (x63 : Bool) (x834000 : Int) (x834001 : List Int) (x856000 : Int) (x856001 : List Int) : Option (Bool) := lim (fun k => laws_FnExactNearestSpaces.j0 k x0 x6 x7 x8 x9 x11 x12 x13 x63 x834000 x834001 x856000 x856001)
theorem laws_FnExactNearestSpaces.j0lim (x0 : List (S59)) (x6 : Int) (x7 : List Int) (x8 : Int) (x9 : List (S63)) (x11 : Int) (x12 : List Int) (x13 : Int) (x63 : Bool) (x834000 : Int) (x834001 : List Int) (x856000 : Int) (x856001 : List Int) : IsLim (fun k => laws_FnExactNearestSpaces.j0 k x0 x6 x7 x8 x9 x11 x12 x13 x63 x834000 x834001 x856000 x856001) (laws_FnExactNearestSpaces.j0d x0 x6 x7 x8 x9 x11 x12 x13 x63 x834000 x834001 x856000 x856001) := lim_spec (fun k => (laws_FnExactNearestSpaces.mono_l k).1 x0 x6 x7 x8 x9 x11 x12 x13 x63 x834000 x834001 x856000 x856001)
noncomputable def laws_FnExactNearestSpaces.j1d (x0 : List (S59)) (x6 : Int) (x7 : List Int) (x8 : Int) (x12 : List Int) (x97 : Bool) (x834000 : Int) (x834001 : List Int) : Option (Bool) := lim (fun k => laws_FnExactNearestSpaces.j1 k x0 x6 x7 x8 x12 x97 x834000 x834001)
theorem laws_FnExactNearestSpaces.j1lim (x0 : List (S59)) (x6 : Int) (x7 : List Int) (x8 : Int) (x12 : List Int) (x97 : Bool) (x834000 : Int) (x834001 : List Int) : IsLim (fun k => laws_FnExactNearestSpaces.j1 k x0 x6 x7 x8 x12 x97 x834000 x834001) (laws_FnExactNearestSpaces.j1d x0 x6 x7 x8 x12 x97 x834000 x834001) := lim_spec (fun k => (laws_FnExactNearestSpaces.mono_l k).2.1 x0 x6 x7 x8 x12 x97 x834000 x834001)
noncomputable def laws_FnExactNearestSpaces.j2d (x12 : List Int) (x15 : Int) (x131 : Bool) : Option (Bool) := lim (fun k => laws_FnExactNearestSpaces.j2 k x12 x15 x131)
theorem laws_FnExactNearestSpaces.j2lim (x12 : List Int) (x15 : Int) (x131 : Bool) : IsLim (fun k => laws_FnExactNearestSpaces.j2 k x12 x15 x131) (laws_FnExactNearestSpaces.j2d x12 x15 x131) := lim_spec (fun k => (laws_FnExactNearestSpaces.mono_l k).2.2 x12 x15 x131)
theorem laws_FnExactNearestSpaces.j0d_eq (x0 : List (S59)) (x6 : Int) (x7 : List Int) (x8 : Int) (x9 : List (S63)) (x11 : Int) (x12 : List Int) (x13 : Int) (x63 : Bool) (x834000 : Int) (x834001 : List Int) (x856000 : Int) (x856001 : List Int) : laws_FnExactNearestSpaces.j0d x0 x6 x7 x8 x9 x11 x12 x13 x63 x834000 x834001 x856000 x856001 = if x63 = true then (some false) else ((laws_toMatrixS.d x0).bind fun t862 => ((laws_eqMatrixS.d x9 t862).bind fun t865 => (if t865 = true then ((laws_toMatrix.d x834000 x834001).bind fun bt866 => ((laws_eqMatrix.d x856000 x856001 bt866.1 bt866.2).bind fun t870 => (if t870 = true then ((laws_markMatrixS.d x9 1).bind fun bt871 => ((laws_markMatrix.d x856000 x856001 bt871.1).bind fun bt872 => (if bt872.1 < 0 then (laws_FnExactNearestSpaces.j1d x0 x6 x7 x8 x12 true x834000 x834001) else (if x11 = x6 then ((laws_eqInt64S.d x12 x7).bind fun t874 => (if t874 = true then (laws_FnExactNearestSpaces.j1d x0 x6 x7 x8 x12 (x13 != x8) x834000 x834001) else (laws_FnExactNearestSpaces.j1d x0 x6 x7 x8 x12 true x834000 x834001))) else (laws_FnExactNearestSpaces.j1d x0 x6 x7 x8 x12 true x834000 x834001))))) else (some false)))) else (some false)))) := by
  refine IsLim.unique (laws_FnExactNearestSpaces.j0lim _ _ _ _ _ _ _ _ _ _ _ _ _) ?_
  refine IsLim.shift (by rfl) ?_
  simp only [laws_FnExactNearestSpaces.j0]
  repeat' (first | exact IsLim.const _ | refine IsLim.ite ?_ ?_ | refine IsLim.bind ?_ (fun _ => ?_) | exact laws_toMatrixS.lim .. | exact laws_eqMatrixS.lim .. | exact laws_toMatrix.lim .. | exact laws_eqMatrix.lim .. | exact laws_markMatrixS.lim .. | exact laws_markMatrix.lim .. | exact laws_eqInt64S.lim .. | exact laws_FnExactNearestSpaces.j1lim ..)
theorem laws_FnExactNearestSpaces.j1d_eq (x0 : List (S59)) (x6 : Int) (x7 : List Int) (x8 : Int) (x12 : List Int) (x97 : Bool) (x834000 : Int) (x834001 : List Int) : laws_FnExactNearestSpaces.j1d x0 x6 x7 x8 x12 x97 x834000 x834001 = if x97 = true then (some false) else ((laws_markInt64S.d x12 1).bind fun bt875 => ((laws_heldInt64S.d bt875.2 1).bind fun t877 => (if t877 < 0 then (some false) else (if t877 = bt875.1 then ((laws_toMatrixS.d x0).bind fun t878 => ((laws_toMatrix.d x834000 x834001).bind fun bt881 => ((impl_NearestSpaces.d t878 bt881.1 bt881.2).bind fun bt885 => (if bt885.1 = x6 then ((laws_eqInt64S.d bt885.2.1 x7).bind fun t890 => (if t890 = true then (laws_FnExactNearestSpaces.j2d bt875.2 bt875.1 (bt885.2.2 != x8)) else (laws_FnExactNearestSpaces.j2d bt875.2 bt875.1 true))) else (laws_FnExactNearestSpaces.j2d bt875.2 bt875.1 true))))) else (some false))))) := by
  refine IsLim.unique (laws_FnExactNearestSpaces.j1lim _ _ _ _ _ _ _ _) ?_
  refine IsLim.shift (by rfl) ?_
  simp only [laws_FnExactNearestSpaces.j1]
  repeat' (first | exact IsLim.const _ | refine IsLim.ite ?_ ?_ | refine IsLim.bind ?_ (fun _ => ?_) | exact laws_markInt64S.lim .. | exact laws_heldInt64S.lim .. | exact laws_toMatrixS.lim .. | exact laws_toMatrix.lim .. | exact impl_NearestSpaces.lim .. | exact laws_eqInt64S.lim .. | exact laws_FnExactNearestSpaces.j2lim ..)
theorem laws_FnExactNearestSpaces.j2d_eq (x12 : List Int) (x15 : Int) (x131 : Bool) : laws_FnExactNearestSpaces.j2d x12 x15 x131 = if x131 = true then (some false) else ((laws_heldInt64S.d x12 1).bind fun t891 => (if t891 < 0 then (some false) else (if t891 = x15 then (some true) else (some false)))) := by
  refine IsLim.unique (laws_FnExactNearestSpaces.j2lim _ _ _) ?_
  refine IsLim.shift (by rfl) ?_
  simp only [laws_FnExactNearestSpaces.j2]
  repeat' (first | exact IsLim.const _ | refine IsLim.ite ?_ ?_ | refine IsLim.bind ?_ (fun _ => ?_) | exact laws_heldInt64S.lim ..)
noncomputable def laws_FnExactNearestSpaces.d (l0 : List (S59)) (a1_0 : Int) (l1_1 : List Int) : Option (Bool) := lim (fun k => laws_FnExactNearestSpaces.f k l0 a1_0 l1_1)
theorem laws_FnExactNearestSpaces.lim (l0 : List (S59)) (a1_0 : Int) (l1_1 : List Int) : IsLim (fun k => laws_FnExactNearestSpaces.f k l0 a1_0 l1_1) (laws_FnExactNearestSpaces.d l0 a1_0 l1_1) := lim_spec (fun k => laws_FnExactNearestSpaces.mono l0 a1_0 l1_1 k)
theorem laws_FnExactNearestSpaces.d_eq (l0 : List (S59)) (a1_0 : Int) (l1_1 : List Int) : laws_FnExactNearestSpaces.d l0 a1_0 l1_1 = (laws_szMatrixS.d l0 1048576).bind fun t834 => (if t834 < 0 then (some true) else ((laws_szMatrix.f a1_0 l1_1 t834).bind fun t835 => (if t835 < 0 then (some true) else ((laws_toMatrixS.d l0).bind fun t836 => ((laws_toMatrix.d a1_0 l1_1).bind fun bt839 => ((spec_NearestSpaces.d t836 bt839.1 bt839.2).bind fun bt843 => ((laws_toMatrixS.d l0).bind fun t848 => ((laws_toMatrix.d a1_0 l1_1).bind fun bt851 => ((impl_NearestSpaces.d t848 bt851.1 bt851.2).bind fun bt856 => (if bt856.1 = bt843.1 then ((laws_eqInt64S.d bt856.2.1 bt843.2.1).bind fun t861 => (if t861 = true then (laws_FnExactNearestSpaces.j0d l0 bt843.1 bt843.2.1 bt843.2.2 t848 bt856.1 bt856.2.1 bt856.2.2 (bt856.2.2 != bt843.2.2) a1_0 l1_1 bt851.1 bt851.2) else (laws_FnExactNearestSpaces.j0d l0 bt843.1 bt843.2.1 bt843.2.2 t848 bt856.1 bt856.2.1 bt856.2.2 true a1_0 l1_1 bt851.1 bt851.2))) else (laws_FnExactNearestSpaces.j0d l0 bt843.1 bt843.2.1 bt843.2.2 t848 bt856.1 bt856.2.1 bt856.2.2 true a1_0 l1_1 bt851.1 bt851.2))))))))))) := by
  refine IsLim.unique (laws_FnExactNearestSpaces.lim _ _ _) ?_
  unfold laws_FnExactNearestSpaces.f
  repeat' (first | exact IsLim.const _ | refine IsLim.ite ?_ ?_ | refine IsLim.bind ?_ (fun _ => ?_) | exact laws_szMatrixS.lim .. | exact laws_toMatrixS.lim .. | exact laws_toMatrix.lim .. | exact spec_NearestSpaces.lim .. | exact impl_NearestSpaces.lim .. | exact laws_eqInt64S.lim .. | exact laws_FnExactNearestSpaces.j0lim ..)
end Go.Proofs.Ytbalkaphibnpcaa.P
end
section
namespace Go.Proofs.Ytbalkaphibnpcaa.P
open Go.RowKit Go.Proofs.YtbalkaphibnpcaaW.PrintWords Go.Proofs.YtbalkaphibnpcaaW.PrintLast Go.Proofs.YtbalkaphibnpcaaW.PrintMore
set_option linter.unusedVariables false
set_option linter.unusedSimpArgs false
theorem wr {x : Int} (h0 : -9223372036854775808 ≤ x) (h1 : x < 9223372036854775808) : wrap64 x = x := by
  unfold wrap64; omega
theorem wrS {i n : Nat} (h : i < n) (hn : n ≤ 17592186044416) : wrap64 ((i : Int) + 1) = ((i + 1 : Nat) : Int) := by rw [wr (by omega) (by omega)]; omega
theorem u64_id {x : Int} (h0 : 0 ≤ x) (h1 : x < 9223372036854775808) : IntKind.u64.wrap x = x := by rw [IntKind.wrap_u64]; omega
theorem down {Q : Nat → Prop} {n : Nat} (h0 : Q n) (hs : ∀ i, i < n → Q (i + 1) → Q i) : ∀ i, i ≤ n → Q i := by
  intro i hi
  obtain ⟨d, hd⟩ : ∃ d, d = n - i := ⟨_, rfl⟩
  induction d generalizing i with
  | zero => have : i = n := by omega
            exact this ▸ h0
  | succ d ih => exact hs i (by omega) (ih (i + 1) (by omega) (by omega))
theorem rd_get {l : List Int} {i : Nat} (h : i < l.length) : rd l (i : Int) = l[i] := rd_at l i h
theorem bind_some' {α β : Type} (a : α) (f : α → Option β) : (some a).bind f = f a := rfl
/-- a, a + 1, .. -/
def iota (a : Int) : Nat → List Int
  | 0 => []
  | n + 1 => a :: iota (a + 1) n
theorem iota_length (a : Int) (n : Nat) : (iota a n).length = n := by
  induction n generalizing a with
  | zero => rfl
  | succ n ih => simp [iota, ih]
theorem iota_get (a : Int) (n : Nat) : ∀ (i : Nat) (h : i < (iota a n).length), (iota a n)[i] = a + i := by
  induction n generalizing a with
  | zero => intro i h; simp [iota] at h
  | succ n ih =>
    intro i h
    cases i with
    | zero => simp [iota]
    | succ i => simp only [iota, List.getElem_cons_succ]; rw [ih]; omega
theorem iota_snoc (a : Int) (n : Nat) : iota a (n + 1) = iota a n ++ [a + n] := by
  induction n generalizing a with
  | zero => simp [iota]
  | succ n ih => rw [iota, ih, iota]; simp; omega
/-- the first place where `q` holds, by a walk upward -/
theorem index_gen {F : Int → Option Int} {n : Nat} {q : Nat → Bool} (hend : F (n : Int) = some (-1))
    (heq : ∀ i : Nat, i < n → F (i : Int) = if q i = true then some (i : Int) else F ((i + 1 : Nat) : Int)) :
    ∃ v, F 0 = some v ∧ (decide (v ≥ 0) = !decide (∀ i, i < n → q i = false)) ∧ (0 ≤ v → v.toNat < n ∧ q v.toNat = true ∧ ∀ j, j < v.toNat → q j = false) := by
  have key : ∀ i, i ≤ n → ∃ v, F (i : Int) = some v ∧ (v ≥ 0 ↔ ¬ ∀ j, i ≤ j → j < n → q j = false) ∧ (0 ≤ v → i ≤ v.toNat ∧ v.toNat < n ∧ q v.toNat = true ∧ ∀ j, i ≤ j → j < v.toNat → q j = false) := by
    apply down
    · exact ⟨-1, hend, ⟨fun h => absurd h (by decide), fun h => absurd (fun j _ _ => by omega) h⟩, fun h => absurd h (by decide)⟩
    · intro i hi ⟨v, e, c, d⟩
      rw [heq i hi]
      by_cases hq : q i = true
      · rw [if_pos hq]
        exact ⟨i, rfl, ⟨fun _ h => (by rw [h i (by omega) hi] at hq; cases hq), fun _ => by omega⟩, fun _ => ⟨by simp, by simpa using hi, by simpa using hq, fun j h1 h2 => by simp at h2; omega⟩⟩
      · rw [if_neg hq]
        have hq' : q i = false := Bool.eq_false_iff.mpr hq
        refine ⟨v, e, c.trans ⟨fun h h' => h fun j a b => h' j (by omega) b, fun h h' => h fun j a b => ?_⟩, fun h => ?_⟩
        · rcases Nat.lt_or_ge i j with z | z
          · exact h' j z b
          · have : j = i := by omega
            rw [this, hq']
        · obtain ⟨a1, a2, a3, a4⟩ := d h
          refine ⟨by omega, a2, a3, fun j h1 h2 => ?_⟩
          rcases Nat.lt_or_ge i j with z | z
          · exact a4 j z h2
          · have : j = i := by omega
            rw [this, hq']
  obtain ⟨v, e, c, d⟩ := key 0 (by omega)
  refine ⟨v, e, ?_, fun h => ⟨(d h).2.1, (d h).2.2.1, fun j hj => (d h).2.2.2 j (by omega) hj⟩⟩
  rw [← decide_not]
  apply decide_eq_decide.mpr
  exact c.trans ⟨fun h h' => h fun j _ b => h' j b, fun h h' => h fun j b => h' j (by omega) b⟩
theorem all_gen {F : Int → Option Bool} {n : Nat} {q : Nat → Bool} (hend : F (n : Int) = some true)
    (heq : ∀ i : Nat, i < n → F (i : Int) = if q i = true then F ((i + 1 : Nat) : Int) else some false) :
    F 0 = some (decide (∀ i, i < n → q i = true)) := by
  have key : ∀ i, i ≤ n → ∃ b, F (i : Int) = some b ∧ (b = true ↔ ∀ j, i ≤ j → j < n → q j = true) := by
    apply down
    · exact ⟨true, hend, ⟨fun _ j a b => by omega, fun _ => rfl⟩⟩
    · intro i hi ⟨b, e, c⟩
      rw [heq i hi, e]
      by_cases hq : q i = true
      · rw [if_pos hq]
        refine ⟨b, rfl, c.trans ⟨fun h j a b => ?_, fun h j a b => h j (by omega) b⟩⟩
        rcases Nat.lt_or_ge i j with z | z
        · exact h j z b
        · have : j = i := by omega
          rw [this, hq]
      · rw [if_neg hq]
        exact ⟨false, rfl, ⟨(fun h => absurd h (by decide)), fun h => absurd (h i (by omega) hi) hq⟩⟩
  obtain ⟨b, e, c⟩ := key 0 (by omega)
  have e' : F 0 = some b := e
  rw [e']
  congr 1
  rw [Bool.eq_iff_iff, decide_eq_true_iff]
  exact c.trans ⟨fun h j b => h j (by omega) b, fun h j _ b => h j b⟩
theorem all_get {l : List Int} {q : Int → Bool} : decide (∀ i, i < l.length → q (rd l (i : Int)) = true) = l.all q := by
  rw [Bool.eq_iff_iff, decide_eq_true_iff, List.all_eq_true]
  constructor
  · intro h x hx
    obtain ⟨i, hi, e⟩ := List.getElem_of_mem hx
    have := h i hi
    rwa [rd_get hi, e] at this
  · intro h i hi
    rw [rd_get hi]; exact h _ (List.getElem_mem hi)
end Go.Proofs.Ytbalkaphibnpcaa.P
end
section
namespace Go.Proofs.Ytbalkaphibnpcaa.P
open Go.RowKit Go.Proofs.YtbalkaphibnpcaaW.PrintWords Go.Proofs.YtbalkaphibnpcaaW.PrintLast Go.Proofs.YtbalkaphibnpcaaW.PrintMore
set_option linter.unusedVariables false
set_option linter.unusedSimpArgs false
theorem toInt64S_v {l : List Int} (h : l.length ≤ 17592186044416) : laws_toInt64S.d l = some l := by
  have key : ∀ i, i ≤ l.length → laws_toInt64S.l0d l (l.take i ++ List.replicate (l.length - i) 0) (i : Int) = some l := by
    apply down
    · rw [laws_toInt64S.l0d_eq, if_neg (by omega)]; simp
    · intro i hi ih
      rw [laws_toInt64S.l0d_eq, if_pos (by omega), if_pos (by omega), if_pos (by simp; omega), wrS hi h, rd_get hi]
      rw [← ih]
      congr 1
      rw [List.take_succ_eq_append_getElem hi, Int.toNat_natCast]
      apply List.ext_getElem
      · simp; omega
      · intro j h1 h2
        simp only [List.getElem_set, List.getElem_append, List.length_take, List.length_append, List.getElem_take, List.getElem_replicate, List.length_cons, List.length_nil]
        simp only [List.length_set, List.length_append, List.length_take, List.length_replicate] at h1
        by_cases c : i = j
        · subst c; rw [if_pos rfl, dif_pos (by omega), dif_neg (by omega)]; simp
        · rw [if_neg c]
          by_cases c2 : j < i
          · rw [dif_pos (by omega), dif_pos (by omega), dif_pos (by omega)]
          · rw [dif_neg (by omega), dif_neg (by omega)]
  rw [laws_toInt64S.d_eq, if_pos (by omega), if_pos (by omega)]
  have := key 0 (by omega)
  simpa using this
theorem eqInt64S_v {a b : List Int} (h : a.length ≤ 17592186044416) : laws_eqInt64S.d a b = some (decide (a = b)) := by
  rw [laws_eqInt64S.d_eq]
  by_cases hl : a.length = b.length
  · rw [if_pos (by omega)]
    have key : ∀ i, i ≤ a.length → laws_eqInt64S.l0d a b (i : Int) = some (decide (a.drop i = b.drop i)) := by
      apply down
      · rw [laws_eqInt64S.l0d_eq, if_neg (by omega)]; simp [hl]
      · intro i hi ih
        have hb : i < b.length := by omega
        rw [laws_eqInt64S.l0d_eq, if_pos (by omega), if_pos (by omega), if_pos (by omega), wrS hi h, rd_get hi, rd_get hb, ih]
        rw [List.drop_eq_getElem_cons hi, List.drop_eq_getElem_cons hb]
        by_cases c : a[i] = b[i]
        · rw [if_pos c]; simp only [List.cons.injEq, c, true_and]
        · rw [if_neg c]; simp only [List.cons.injEq, c, false_and, decide_false]
    have := key 0 (by omega)
    simpa using this
  · rw [if_neg (by omega)]
    have : a ≠ b := fun e => hl (by rw [e])
    simp [this]
theorem eqInt64S_self {a : List Int} (h : a.length ≤ 17592186044416) : laws_eqInt64S.d a a = some true := by rw [eqInt64S_v h]; simp
end Go.Proofs.Ytbalkaphibnpcaa.P
end
section
namespace Go.Proofs.Ytbalkaphibnpcaa.P
open Go.RowKit Go.Proofs.YtbalkaphibnpcaaW.PrintWords Go.Proofs.YtbalkaphibnpcaaW.PrintLast Go.Proofs.YtbalkaphibnpcaaW.PrintMore
set_option linter.unusedVariables false
set_option linter.unusedSimpArgs false
theorem markInt64S_v {l : List Int} {a : Int} (h : l.length ≤ 17592186044416) (h0 : 0 ≤ a) (h1 : a ≤ 4611686018427387904) :
    laws_markInt64S.d l a = some (a + l.length, iota a l.length) := by
  have key : ∀ i, i ≤ l.length → laws_markInt64S.l0d (iota a i ++ l.drop i) (a + i) (i : Int) = some (a + l.length, iota a l.length) := by
    apply down
    · rw [laws_markInt64S.l0d_eq, if_neg (by simp [iota_length])]; simp
    · intro i hi ih
      rw [laws_markInt64S.l0d_eq, if_pos (by simp [iota_length]; omega), if_pos (by omega), wrS hi h, wr (x := a + i + 1) (by omega) (by omega), ← ih]
      congr 1
      · rw [iota_snoc, Int.toNat_natCast, List.set_append]
        simp only [iota_length, Nat.lt_irrefl, if_false, Nat.sub_self]
        rw [List.drop_eq_getElem_cons hi]
        simp only [List.set_cons_zero, List.append_assoc, List.singleton_append]
      · omega
  rw [laws_markInt64S.d_eq]
  have := key 0 (by omega)
  simpa [iota] using this
theorem heldInt64S_v {n : Nat} {a : Int} (h : n ≤ 17592186044416) (h0 : 0 ≤ a) (h1 : a ≤ 4611686018427387904) :
    laws_heldInt64S.d (iota a n) a = some (a + n) := by
  have key : ∀ i, i ≤ n → laws_heldInt64S.l0d (iota a n) (a + i) (i : Int) = some (a + n) := by
    apply down
    · rw [laws_heldInt64S.l0d_eq, if_neg (by simp [iota_length])]
    · intro i hi ih
      have hi' : i < (iota a n).length := by rw [iota_length]; exact hi
      rw [laws_heldInt64S.l0d_eq, if_pos (by omega), if_pos (by omega), rd_get hi', iota_get, if_pos rfl, wrS hi h, wr (x := a + i + 1) (by omega) (by omega), ← ih]
      congr 1; omega
  rw [laws_heldInt64S.d_eq]
  have := key 0 (by omega)
  simpa using this
end Go.Proofs.Ytbalkaphibnpcaa.P
end
section
namespace Go.Proofs.Ytbalkaphibnpcaa.P
open Go.RowKit Go.Proofs.YtbalkaphibnpcaaW.PrintWords Go.Proofs.YtbalkaphibnpcaaW.PrintLast Go.Proofs.YtbalkaphibnpcaaW.PrintMore
set_option linter.unusedVariables false
set_option linter.unusedSimpArgs false
theorem wrap_nat {n : Nat} (h : n < 9223372036854775808) : IntKind.i64.wrap (n : Int) = (n : Int) := by rw [IntKind.wrap_i64]; omega
theorem bits_nat {a : Nat} (ha : a < 9223372036854775808) : (BitVec.ofInt IntKind.i64.bits (a : Int)).toNat = a := by
  show (BitVec.ofInt 64 (a : Int)).toNat = a
  rw [BitVec.ofInt_natCast, BitVec.toNat_ofNat]
  exact Nat.mod_eq_of_lt (by omega)
theorem bxor {a b : Nat} (ha : a < 9223372036854775808) (hb : b < 9223372036854775808) : Go.bits .xor .i64 (a : Int) (b : Int) = ((a ^^^ b : Nat) : Int) := by
  show IntKind.i64.wrap ((BitVec.ofInt IntKind.i64.bits (a : Int) ^^^ BitVec.ofInt IntKind.i64.bits (b : Int)).toNat : Int) = _
  rw [BitVec.toNat_xor, bits_nat ha, bits_nat hb]
  exact wrap_nat (Nat.xor_lt_two_pow (n := 63) (by omega) (by omega))
theorem band {a b : Nat} (ha : a < 9223372036854775808) (hb : b < 9223372036854775808) : Go.bits .and .i64 (a : Int) (b : Int) = ((a &&& b : Nat) : Int) := by
  show IntKind.i64.wrap ((BitVec.ofInt IntKind.i64.bits (a : Int) &&& BitVec.ofInt IntKind.i64.bits (b : Int)).toNat : Int) = _
  rw [BitVec.toNat_and, bits_nat ha, bits_nat hb]
  exact wrap_nat (Nat.and_lt_two_pow (n := 63) a (by omega))
theorem shr_nat {a c : Nat} (hc : c ≤ 64) : shr .i64 (a : Int) (c : Int) = ((a >>> c : Nat) : Int) := by
  show (a : Int) / 2 ^ min (c : Int).toNat 64 = _
  rw [Int.toNat_natCast, Nat.min_eq_left hc, Nat.shiftRight_eq_div_pow]
  simp
theorem shl_nat {a c : Nat} (hc : c ≤ 64) (h : a * 2 ^ c < 9223372036854775808) : shl .i64 (a : Int) (c : Int) = ((a * 2 ^ c : Nat) : Int) := by
  show IntKind.i64.wrap ((a : Int) * 2 ^ min (c : Int).toNat 64) = _
  rw [Int.toNat_natCast, Nat.min_eq_left hc, ← wrap_nat h]
  simp
theorem bit_test {a c : Nat} (ha : a < 9223372036854775808) (hc : c ≤ 64) : Go.bits .and .i64 (shr .i64 (a : Int) (c : Int)) 1 = if a.testBit c = true then 1 else 0 := by
  rw [shr_nat hc]
  have h1 : a >>> c < 9223372036854775808 := by
    rw [Nat.shiftRight_eq_div_pow]
    exact Nat.lt_of_le_of_lt (Nat.div_le_self _ _) ha
  have := band (a := a >>> c) (b := 1) h1 (by omega)
  rw [show ((1 : Nat) : Int) = 1 from rfl] at this
  rw [this, Nat.testBit, Nat.and_comm 1]
  rw [Nat.and_one_is_mod]
  rcases Nat.mod_two_eq_zero_or_one (a >>> c) with e | e <;> rw [e] <;> simp
/-- rows as the program holds them -/
def up (l : List Nat) : List Int := l.map fun (x : Nat) => (x : Int)
theorem up_length (l : List Nat) : (up l).length = l.length := by simp [up]
theorem up_get {l : List Nat} {i : Nat} (h : i < l.length) : rd (up l) (i : Int) = (l[i] : Int) := by
  rw [rd_get (by rw [up_length]; exact h)]; simp [up]
theorem up_set {l : List Nat} {i x : Nat} : (up l).set i (x : Int) = up (l.set i x) := by simp [up, List.map_set]
theorem up_append (l l' : List Nat) : up (l ++ l') = up l ++ up l' := by simp [up]
theorem up_drop (l : List Nat) (i : Nat) : (up l).drop i = up (l.drop i) := by simp [up, List.map_drop]
theorem up_take (l : List Nat) (i : Nat) : (up l).take i = up (l.take i) := by simp [up, List.map_take]
theorem up_of {l : List Int} (h : ∀ x ∈ l, 0 ≤ x) : up (l.map Int.toNat) = l := by
  unfold up
  rw [List.map_map]
  conv => rhs; rw [← List.map_id l]
  apply List.map_congr_left
  intro x hx
  show ((x.toNat : Nat) : Int) = x
  have := h x hx
  omega
theorem up_inj {a b : List Nat} (h : up a = up b) : a = b := by
  unfold up at h
  exact (List.map_inj_right (f := fun (x : Nat) => (x : Int)) (fun x y e => by have e : (x : Int) = (y : Int) := e; omega)).mp h
/-- a walk upward that writes every place of a list -/
theorem map_gen {α R : Type} {F : List α → Int → R} {n : Nat} {g : Nat → α → α} {r : R} (Q : Nat → α → Prop) (l : List α) (hn : l.length = n)
    (hq : ∀ i, (h : i < l.length) → Q i l[i]) (hg : ∀ i x, Q i x → Q i (g i x))
    (heq : ∀ i : Nat, ∀ a : List α, (hi : i < a.length) → a.length = n → (∀ j, (h : j < a.length) → Q j a[j]) → (∀ j, i ≤ j → (h : j < a.length) → (h' : j < l.length) → a[j] = l[j]) →
      (∀ j, j < i → (h : j < a.length) → (h' : j < l.length) → a[j] = g j l[j]) → F a (i : Int) = F (a.set i (g i (a[i]'hi))) ((i + 1 : Nat) : Int))
    (hend : F (l.mapIdx g) (n : Int) = r) : F l 0 = r := by
  have key : ∀ i, i ≤ n → F (l.mapIdx fun j x => if j < i then g j x else x) (i : Int) = r := by
    apply down
    · have : (l.mapIdx fun j x => if j < n then g j x else x) = l.mapIdx g := by
        apply List.ext_getElem
        · simp
        · intro j h1 h2
          simp only [List.getElem_mapIdx]
          rw [if_pos (by simp at h1; omega)]
      rw [this]; exact hend
    · intro i hi e
      have hil : i < l.length := by omega
      rw [heq i _ (by simp; omega) (by simp; omega) ?_ ?_ ?_, ← e]
      · congr 1
        apply List.ext_getElem
        · simp
        · intro j h1 h2
          simp only [List.getElem_set, List.getElem_mapIdx]
          by_cases c : i = j
          · subst c; simp
          · rw [if_neg c]
            by_cases c2 : j < i
            · simp [c2, show j < i + 1 by omega]
            · simp [c2, show ¬ j < i + 1 by omega]
      · intro j h
        simp only [List.length_mapIdx] at h
        simp only [List.getElem_mapIdx]
        split
        · exact hg j _ (hq j h)
        · exact hq j h
      · intro j hij h h'
        simp only [List.getElem_mapIdx]
        rw [if_neg (by omega)]
      · intro j hij h h'
        simp only [List.getElem_mapIdx]
        rw [if_pos hij]
  have := key 0 (by omega)
  have e : (l.mapIdx fun j x => if j < 0 then g j x else x) = l := by
    apply List.ext_getElem
    · simp
    · intro j h1 h2; simp
  rw [e] at this
  exact this
theorem mapIdx_const {α : Type} (g : α → α) (l : List α) : (l.mapIdx fun _ x => g x) = l.map g := by
  apply List.ext_getElem
  · simp
  · intro j h1 h2; simp
end Go.Proofs.Ytbalkaphibnpcaa.P
end
section
namespace Go.Proofs.Ytbalkaphibnpcaa.P
set_option linter.unusedVariables false
set_option linter.unusedSimpArgs false
/-- a sum of some of the rows -/
inductive Sp (R : List Nat) : Nat → Prop
  | zero : Sp R 0
  | add {r v : Nat} : r ∈ R → Sp R v → Sp R (v ^^^ r)
theorem Sp.mem {R : List Nat} {r : Nat} (h : r ∈ R) : Sp R r := by
  have := Sp.add h Sp.zero
  rwa [Nat.zero_xor] at this
theorem Sp.xor {R : List Nat} {u v : Nat} (hu : Sp R u) (hv : Sp R v) : Sp R (u ^^^ v) := by
  induction hv with
  | zero => rwa [Nat.xor_zero]
  | add h _ ih => rw [← Nat.xor_assoc]; exact Sp.add h ih
theorem Sp.sub {R R' : List Nat} (h : ∀ r ∈ R, Sp R' r) {v : Nat} (hv : Sp R v) : Sp R' v := by
  induction hv with
  | zero => exact Sp.zero
  | add hr _ ih => exact ih.xor (h _ hr)
theorem Sp.mono {R R' : List Nat} (h : ∀ r ∈ R, r ∈ R') {v : Nat} (hv : Sp R v) : Sp R' v := hv.sub fun r hr => Sp.mem (h r hr)
theorem Sp.nil {v : Nat} (h : Sp [] v) : v = 0 := by
  cases h with
  | zero => rfl
  | add h _ => cases h
theorem Sp.cons {r : Nat} {R : List Nat} {v : Nat} (h : Sp (r :: R) v) : Sp R v ∨ Sp R (v ^^^ r) := by
  induction h with
  | zero => exact .inl .zero
  | @add s v hs _ ih =>
    rcases List.mem_cons.mp hs with rfl | hs
    · rcases ih with ih | ih
      · right; rw [Nat.xor_assoc, Nat.xor_self, Nat.xor_zero]; exact ih
      · left; exact ih
    · rcases ih with ih | ih
      · left; exact ih.add hs
      · right; rw [Nat.xor_assoc, Nat.xor_comm s r, ← Nat.xor_assoc]; exact ih.add hs
theorem Sp.bit {R : List Nat} {b : Nat} (h : ∀ r ∈ R, r.testBit b = false) {v : Nat} (hv : Sp R v) : v.testBit b = false := by
  induction hv with
  | zero => exact Nat.zero_testBit b
  | add hr _ ih => rw [Nat.testBit_xor, ih, h _ hr]; rfl
/-- reduced rows R with their leading places C, growing -/
def RED : List Nat → List Nat → Prop
  | [], [] => True
  | r :: R, c :: C => r.testBit c = true ∧ (∀ b, b < c → r.testBit b = false) ∧ (∀ d ∈ C, c < d ∧ r.testBit d = false) ∧ RED R C
  | _, _ => False
theorem RED.low {R C : List Nat} (h : RED R C) {b : Nat} (hb : ∀ d ∈ C, b < d) : ∀ r ∈ R, r.testBit b = false := by
  induction R generalizing C with
  | nil => intro r hr; cases hr
  | cons r R ih =>
    cases C with
    | nil => exact h.elim
    | cons c C =>
      obtain ⟨h1, h2, h3, h4⟩ := h
      intro s hs
      rcases List.mem_cons.mp hs with rfl | hs
      · exact h2 b (hb c (by simp))
      · exact ih h4 (fun d hd => hb d (by simp [hd])) s hs
theorem RED.zero {R C : List Nat} (h : RED R C) {v : Nat} (hv : Sp R v) (h0 : ∀ c ∈ C, v.testBit c = false) : v = 0 := by
  induction R generalizing C v with
  | nil => exact hv.nil
  | cons r R ih =>
    cases C with
    | nil => exact h.elim
    | cons c C =>
      obtain ⟨h1, h2, h3, h4⟩ := h
      have low : ∀ s ∈ R, s.testBit c = false := h4.low fun d hd => (h3 d hd).1
      rcases hv.cons with hv | hv
      · exact ih h4 hv fun d hd => h0 d (by simp [hd])
      · have := hv.bit low
        rw [Nat.testBit_xor, h1, h0 c (by simp)] at this
        cases this
theorem RED.lead {R C : List Nat} (h : RED R C) {v : Nat} (hv : Sp R v) (h0 : v ≠ 0) : ∃ c ∈ C, v.testBit c = true ∧ ∀ b, b < c → v.testBit b = false := by
  induction R generalizing C v with
  | nil => exact absurd hv.nil h0
  | cons r R ih =>
    cases C with
    | nil => exact h.elim
    | cons c C =>
      obtain ⟨h1, h2, h3, h4⟩ := h
      rcases hv.cons with hv | hv
      · obtain ⟨d, hd, a, b⟩ := ih h4 hv h0
        exact ⟨d, by simp [hd], a, b⟩
      · refine ⟨c, by simp, ?_, fun b hb => ?_⟩
        · have := hv.bit (h4.low fun d hd => (h3 d hd).1)
          rw [Nat.testBit_xor, h1] at this
          revert this; cases v.testBit c <;> simp
        · have := hv.bit (h4.low (b := b) fun d hd => Nat.lt_trans hb (h3 d hd).1)
          rw [Nat.testBit_xor, h2 b hb] at this
          revert this; cases v.testBit b <;> simp
theorem RED.nonzero {r c : Nat} (h : r.testBit c = true) : r ≠ 0 := by rintro rfl; rw [Nat.zero_testBit] at h; cases h
theorem RED.head_le {r c : Nat} {R C R' C' : List Nat} {r' c' : Nat} (h : RED (r :: R) (c :: C)) (h' : RED (r' :: R') (c' :: C'))
    (hs : ∀ v, Sp (r' :: R') v → Sp (r :: R) v) : c ≤ c' := by
  obtain ⟨d, hd, a, b⟩ := h.lead (hs r' (Sp.mem (by simp))) (RED.nonzero h'.1)
  have : c ≤ d := by
    rcases List.mem_cons.mp hd with rfl | hd
    · exact Nat.le_refl _
    · exact Nat.le_of_lt (h.2.2.1 d hd).1
  rcases Nat.lt_or_ge c' d with z | z
  · have := b c' z; rw [h'.1] at this; cases this
  · omega
theorem RED.tail {r c : Nat} {R C : List Nat} (h : RED (r :: R) (c :: C)) {v : Nat} : Sp R v ↔ (Sp (r :: R) v ∧ v.testBit c = false) := by
  have low : ∀ s ∈ R, s.testBit c = false := h.2.2.2.low fun d hd => (h.2.2.1 d hd).1
  constructor
  · intro hv; exact ⟨hv.mono fun s hs => by simp [hs], hv.bit low⟩
  · rintro ⟨hv, h0⟩
    rcases hv.cons with hv | hv
    · exact hv
    · have := hv.bit low
      rw [Nat.testBit_xor, h.1, h0] at this; cases this
theorem RED.unique {R C R' C' : List Nat} (h : RED R C) (h' : RED R' C') (hs : ∀ v, Sp R v ↔ Sp R' v) : R = R' ∧ C = C' := by
  induction R generalizing C R' C' with
  | nil =>
    cases C with
    | cons c C => exact h.elim
    | nil =>
      cases R' with
      | nil => cases C' with
        | nil => exact ⟨rfl, rfl⟩
        | cons c' C' => exact h'.elim
      | cons r' R' => cases C' with
        | nil => exact h'.elim
        | cons c' C' => exact absurd ((hs r').mpr (Sp.mem (by simp))).nil (RED.nonzero h'.1)
  | cons r R ih =>
    cases C with
    | nil => exact h.elim
    | cons c C =>
      cases R' with
      | nil => cases C' with
        | nil => exact absurd ((hs r).mp (Sp.mem (by simp))).nil (RED.nonzero h.1)
        | cons c' C' => exact h'.elim
      | cons r' R' =>
        cases C' with
        | nil => exact h'.elim
        | cons c' C' =>
          have e : c = c' := Nat.le_antisymm (h.head_le h' fun v => (hs v).mpr) (h'.head_le h fun v => (hs v).mp)
          subst e
          obtain ⟨e1, e2⟩ := ih h.2.2.2 h'.2.2.2 fun v => by rw [h.tail, h'.tail, hs v]
          subst e1 e2
          refine ⟨?_, rfl⟩
          have hz : r ^^^ r' = 0 := by
            refine h.zero (Sp.xor (Sp.mem (by simp)) ((hs r').mpr (Sp.mem (by simp)))) fun d hd => ?_
            rw [Nat.testBit_xor]
            rcases List.mem_cons.mp hd with rfl | hd
            · rw [h.1, h'.1]; rfl
            · rw [(h.2.2.1 d hd).2, (h'.2.2.1 d hd).2]; rfl
          have : r = r' := by
            have := congrArg (· ^^^ r') hz
            simp only [Nat.xor_assoc, Nat.xor_self, Nat.xor_zero, Nat.zero_xor] at this
            exact this
          rw [this]
theorem RED.snoc {R C : List Nat} (h : RED R C) {r c : Nat} (h1 : r.testBit c = true) (h2 : ∀ b, b < c → r.testBit b = false) (hC : ∀ d ∈ C, d < c) (hR : ∀ s ∈ R, s.testBit c = false) : RED (R ++ [r]) (C ++ [c]) := by
  induction R generalizing C with
  | nil =>
    cases C with
    | cons c C => exact h.elim
    | nil => exact ⟨h1, h2, (fun d hd => by cases hd), trivial⟩
  | cons s R ih =>
    cases C with
    | nil => exact h.elim
    | cons d C =>
      refine ⟨h.1, h.2.1, fun e he => ?_, ih h.2.2.2 (fun e he => hC e (by simp [he])) (fun s hs => hR s (by simp [hs]))⟩
      rcases List.mem_append.mp he with he | he
      · exact h.2.2.1 e he
      · rw [List.mem_singleton] at he
        subst he
        exact ⟨hC d (by simp), hR s (by simp)⟩
/-- a row x becomes x + r where it has the place c -/
def clr (c r x : Nat) : Nat := if x.testBit c = true then x ^^^ r else x
theorem clr_bit {c r x : Nat} (h : r.testBit c = true) : (clr c r x).testBit c = false := by
  unfold clr
  split
  · rename_i hx; rw [Nat.testBit_xor, hx, h]; rfl
  · rename_i hx; exact Bool.eq_false_iff.mpr hx
theorem clr_low {c r x b : Nat} (h : r.testBit b = false) : (clr c r x).testBit b = x.testBit b := by
  unfold clr
  split
  · rw [Nat.testBit_xor, h, Bool.xor_false]
  · rfl
theorem clr_lt {c r x n : Nat} (hr : r < 2 ^ n) (hx : x < 2 ^ n) : clr c r x < 2 ^ n := by
  unfold clr
  split
  · exact Nat.xor_lt_two_pow hx hr
  · exact hx
theorem RED.clr {R C : List Nat} (h : RED R C) {r c : Nat} (hr : ∀ d ∈ C, r.testBit d = false) (hl : ∀ d ∈ C, ∀ b, b < d → r.testBit b = false) : RED (R.map (clr c r)) C := by
  induction R generalizing C with
  | nil => exact h
  | cons s R ih =>
    cases C with
    | nil => exact h.elim
    | cons d C =>
      refine ⟨?_, fun b hb => ?_, fun e he => ⟨(h.2.2.1 e he).1, ?_⟩, ih h.2.2.2 (fun e he => hr e (by simp [he])) (fun e he => hl e (by simp [he]))⟩
      · rw [clr_low (hr d (by simp))]; exact h.1
      · rw [clr_low (hl d (by simp) b hb)]; exact h.2.1 b hb
      · rw [clr_low (hr e (by simp [he]))]; exact (h.2.2.1 e he).2
theorem Sp.clr {R : List Nat} {c r x : Nat} (hr : Sp R r) (hx : Sp R x) : Sp R (clr c r x) := by
  unfold P.clr
  split
  · exact hx.xor hr
  · exact hx
theorem Sp.of_clr {R : List Nat} {c r x : Nat} (hr : Sp R r) (hx : Sp R (P.clr c r x)) : Sp R x := by
  unfold P.clr at hx
  split at hx
  · have := hx.xor hr
    rwa [Nat.xor_assoc, Nat.xor_self, Nat.xor_zero] at this
  · exact hx
end Go.Proofs.Ytbalkaphibnpcaa.P
end
section
namespace Go.Proofs.Ytbalkaphibnpcaa.P
open Go.RowKit Go.Proofs.YtbalkaphibnpcaaW.PrintWords Go.Proofs.YtbalkaphibnpcaaW.PrintLast Go.Proofs.YtbalkaphibnpcaaW.PrintMore
set_option linter.unusedVariables false
set_option linter.unusedSimpArgs false
theorem bit_if_pos {b : Bool} (h : b = true) : ((if b = true then 1 else 0 : Int) = 1) = True := by rw [h]; simp
theorem bit_if_neg {b : Bool} (h : b = false) : ((if b = true then 1 else 0 : Int) = 1) = False := by rw [h]; simp
theorem clr_lt62 {c r x : Nat} (hr : r < 4611686018427387904) (hx : x < 4611686018427387904) : clr c r x < 4611686018427387904 := by
  have := clr_lt (n := 62) (c := c) (r := r) (x := x) (by omega) (by omega)
  omega
theorem clr_set {c r : Nat} {a : List Nat} {i : Nat} (hi : i < a.length) (h : a[i].testBit c = false) : a.set i (clr c r a[i]) = a := by
  unfold clr
  rw [if_neg (by rw [h]; decide), List.set_getElem_self]
theorem low_zero {N x : Nat} (h : x < 2 ^ N) (h0 : ∀ b, b < N → x.testBit b = false) : x = 0 := by
  apply Nat.eq_of_testBit_eq
  intro b
  rw [Nat.zero_testBit]
  rcases Nat.lt_or_ge b N with z | z
  · exact h0 b z
  · exact Nat.testBit_lt_two_pow (Nat.lt_of_lt_of_le h (Nat.pow_le_pow_right (by omega) z))
theorem pow62 {N x : Nat} (hN : N ≤ 62) (h : x < 2 ^ N) : x < 4611686018427387904 :=
  Nat.lt_of_lt_of_le h (Nat.le_trans (Nat.pow_le_pow_right (by omega) hN) (by decide))
theorem i_bit_v {a c : Nat} (ha : a < 4611686018427387904) (hc : c ≤ 62) : impl_echelon_1.f (a : Int) (c : Int) = some (a.testBit c) := by
  unfold impl_echelon_1.f
  rw [if_pos (by omega), bit_test (by omega) (by omega)]
  cases a.testBit c <;> simp
theorem i_find_v {m : List Nat} {c : Nat} (hc : c ≤ 61) (hl : m.length ≤ 17592186044416) (hb : ∀ x ∈ m, x < 4611686018427387904) :
    ∃ v, slices_IndexFunc_int64_int64_AT_impl_echelon_1.d (up m) (c : Int) = some v ∧ ((v < 0 ∧ ∀ j, (h : j < m.length) → m[j].testBit c = false) ∨ ∃ j, ∃ h : j < m.length, v = (j : Int) ∧ m[j].testBit c = true) := by
  rw [slices_IndexFunc_int64_int64_AT_impl_echelon_1.d_eq]
  obtain ⟨v, e, d, s⟩ := index_gen (F := fun i => slices_IndexFunc_int64_int64_AT_impl_echelon_1.l0d (up m) ((up m).length : Int) i (c : Int)) (n := m.length) (q := fun i => (m.getD i 0).testBit c)
    (by show slices_IndexFunc_int64_int64_AT_impl_echelon_1.l0d (up m) ((up m).length : Int) (m.length : Int) (c : Int) = _
        rw [slices_IndexFunc_int64_int64_AT_impl_echelon_1.l0d_eq, if_neg (by rw [up_length]; omega)])
    (by intro i hi
        show slices_IndexFunc_int64_int64_AT_impl_echelon_1.l0d (up m) ((up m).length : Int) (i : Int) (c : Int) = _
        have hg : m.getD i 0 = m[i] := by simp [List.getD_eq_getElem?_getD, hi]
        rw [slices_IndexFunc_int64_int64_AT_impl_echelon_1.l0d_eq, if_pos (by rw [up_length]; omega), if_pos (by omega), if_pos (by rw [up_length]; omega), up_get hi, i_bit_v (hb _ (List.getElem_mem hi)) (by omega), bind_some', wrS hi hl, hg])
  refine ⟨v, e, ?_⟩
  by_cases h : ∀ i, i < m.length → (m.getD i 0).testBit c = false
  · left
    rw [decide_eq_true h] at d
    refine ⟨by have : ¬ v ≥ 0 := by simpa using d
               omega, fun j hj => ?_⟩
    have := h j hj
    rwa [List.getD_eq_getElem?_getD, List.getElem?_eq_getElem hj] at this
  · right
    rw [decide_eq_false h] at d
    have hv : 0 ≤ v := by simpa using d
    obtain ⟨a1, a2, _⟩ := s hv
    refine ⟨v.toNat, a1, by omega, ?_⟩
    rwa [List.getD_eq_getElem?_getD, List.getElem?_eq_getElem a1] at a2
/-- two places change their rows -/
def swp (x : List Nat) (d p : Nat) (hd : d < x.length) (hp : p < x.length) : List Nat := (x.set d x[p]).set p x[d]
theorem swp_length {x : List Nat} {d p : Nat} (hd : d < x.length) (hp : p < x.length) : (swp x d p hd hp).length = x.length := by simp [swp]
theorem swp_get {x : List Nat} {d p : Nat} (hd : d < x.length) (hp : p < x.length) {j : Nat} (h : j < (swp x d p hd hp).length) :
    (swp x d p hd hp)[j] = if p = j then x[d] else if d = j then x[p] else x[j]'(by rw [swp_length] at h; exact h) := by
  have h2 : j < ((x.set d x[p]).set p x[d]).length := h
  have e : ((x.set d x[p]).set p x[d])[j]'h2 = if p = j then x[d] else if d = j then x[p] else x[j]'(by rw [swp_length] at h; exact h) := by
    rw [List.getElem_set, List.getElem_set]
  exact e
theorem swp_mem {x : List Nat} {d p : Nat} (hd : d < x.length) (hp : p < x.length) {r : Nat} (h : r ∈ swp x d p hd hp) : r ∈ x := by
  obtain ⟨j, hj, e⟩ := List.getElem_of_mem h
  rw [swp_get] at e
  split at e
  · rw [← e]; exact List.getElem_mem _
  · split at e
    · rw [← e]; exact List.getElem_mem _
    · rw [← e]; exact List.getElem_mem _
def clrBut (d c lead : Nat) (i x : Nat) : Nat := if i = d then x else clr c lead x
theorem i_clear {x : List Nat} {d c : Nat} (hc : c ≤ 61) (hd : d < x.length) (hl : x.length ≤ 17592186044416) (hb : ∀ y ∈ x, y < 4611686018427387904) :
    impl_echelon.l1d (up x) (d : Int) (x.length : Int) 0 (c : Int) = impl_echelon.l0d (up (x.mapIdx (clrBut d c x[d]))) ((d + 1 : Nat) : Int) ((c + 1 : Nat) : Int) := by
  have hlead := hb _ (List.getElem_mem hd)
  refine map_gen (F := fun a i => impl_echelon.l1d (up a) (d : Int) (x.length : Int) i (c : Int)) (n := x.length) (g := clrBut d c x[d]) (fun _ y => y < 4611686018427387904) x rfl
    (fun i h => hb _ (List.getElem_mem h)) (fun i y h => ?_) ?_ ?_
  · unfold clrBut
    split
    · exact h
    · exact clr_lt62 hlead h
  · intro i a hi ha hq hge hlt
    show impl_echelon.l1d (up a) (d : Int) (x.length : Int) (i : Int) (c : Int) = impl_echelon.l1d (up (a.set i (clrBut d c x[d] i a[i]))) (d : Int) (x.length : Int) ((i + 1 : Nat) : Int) (c : Int)
    have had : a[d]'(by omega) = x[d] := by
      rcases Nat.lt_or_ge d i with z | z
      · rw [hlt d z (by omega) hd]; unfold clrBut; rw [if_pos rfl]
      · exact hge d z (by omega) hd
    rw [impl_echelon.l1d_eq, if_pos (by omega)]
    by_cases e : i = d
    · rw [if_pos (by omega), wrS (n := x.length) (by omega) hl]
      unfold clrBut
      rw [if_pos e, List.set_getElem_self]
    · rw [if_neg (by omega), if_pos (by omega), if_pos (by rw [up_length]; omega), if_pos (by omega), up_get hi, bit_test (by have := hq i hi; omega) (by omega), wrS (n := x.length) (by omega) hl, up_get (show d < a.length by omega), had]
      unfold clrBut
      rw [if_neg e]
      by_cases t : a[i].testBit c = true
      · rw [if_pos (by rw [bit_if_pos t]; trivial), if_pos (by omega), if_pos (by rw [up_length]; omega), bxor (by have := hq i hi; omega) (by omega), Int.toNat_natCast, up_set]
        unfold clr; rw [if_pos t]
      · have t' := Bool.eq_false_iff.mpr t
        rw [if_neg (by rw [bit_if_neg t']; exact id), clr_set hi t']
  · show impl_echelon.l1d (up (x.mapIdx (clrBut d c x[d]))) (d : Int) (x.length : Int) (x.length : Int) (c : Int) = _
    rw [impl_echelon.l1d_eq, if_neg (by omega), wrS (n := x.length) (by omega) hl, wrS (n := 62) (by omega) (by omega)]
theorem i_ech_end {N : Nat} (hN : N ≤ 62) {x : List Nat} {d : Nat} {c : Int} (hd : d ≤ x.length) : impl_echelon.j1d (up x) (d : Int) false c = some (up (x.take d)) := by
  rw [impl_echelon.j1d_eq, if_neg (by decide), if_pos (by omega), if_pos (by rw [up_length]; omega), Int.toNat_natCast, up_take]
theorem i_ech_loop {N : Nat} (hN : N ≤ 62) : ∀ c, c ≤ 62 → ∀ (x : List Nat) (d : Nat), x.length ≤ 17592186044416 → d ≤ x.length → (∀ y ∈ x, y < 2 ^ N) →
    (∀ j, d ≤ j → (h : j < x.length) → ∀ b, b < c → x[j].testBit b = false) → (∃ C, RED (x.take d) C ∧ ∀ e ∈ C, e < c) →
    ∃ R C, impl_echelon.l0d (up x) (d : Int) (c : Int) = some (up R) ∧ RED R C ∧ (∀ v, Sp R v ↔ Sp x v) := by
  apply down
  · intro x d hl hd hb hlow ⟨C, hC, _⟩
    refine ⟨x.take d, C, ?_, hC, fun v => ⟨fun h => h.mono fun r hr => List.mem_of_mem_take hr, fun h => h.sub fun r hr => ?_⟩⟩
    · rw [impl_echelon.l0d_eq, if_neg (by omega), i_ech_end hN hd]
    · obtain ⟨j, hj, e⟩ := List.getElem_of_mem hr
      rcases Nat.lt_or_ge j d with z | z
      · refine Sp.mem ?_
        have hjt : j < (x.take d).length := by rw [List.length_take]; omega
        have := List.getElem_mem hjt
        rw [List.getElem_take] at this
        rw [← e]; exact this
      · have : r = 0 := low_zero (N := 62) (Nat.lt_of_lt_of_le (hb r hr) (Nat.pow_le_pow_right (by omega) hN)) (by rw [← e]; exact hlow j z hj)
        rw [this]; exact Sp.zero
  · intro c hc ih x d hl hd hb hlow ⟨C, hC, hCc⟩
    have b62 : ∀ y ∈ x, y < 4611686018427387904 := fun y hy => pow62 hN (hb y hy)
    rw [impl_echelon.l0d_eq, if_pos (by omega)]
    by_cases hdl : d < x.length
    · rw [decide_eq_true (by rw [up_length]; omega), impl_echelon.j1d_eq, if_pos rfl, if_pos (by omega), if_pos (by rw [up_length]; omega), Int.toNat_natCast, up_drop]
      obtain ⟨v, ev, hv⟩ := i_find_v (m := x.drop d) (c := c) (by omega) (by rw [List.length_drop]; omega) (fun y hy => b62 y (List.mem_of_mem_drop hy))
      rw [ev, bind_some']
      rcases hv with ⟨hv, hnone⟩ | ⟨t, ht, rfl, hbit⟩
      · rw [if_pos hv, wrS (n := 62) (by omega) (by omega)]
        refine ih x d hl hd hb (fun j hj h b hbc => ?_) ⟨C, hC, fun e he => Nat.lt_succ_of_lt (hCc e he)⟩
        rcases Nat.lt_or_ge b c with z | z
        · exact hlow j hj h b z
        · have := hnone (j - d) (by rw [List.length_drop]; omega)
          rw [List.getElem_drop] at this
          simp only [show d + (j - d) = j by omega] at this
          rw [show b = c by omega]; exact this
      · rw [List.length_drop] at ht
        rw [List.getElem_drop] at hbit
        have hp : d + t < x.length := by omega
        have ep : wrap64 ((d : Int) + (t : Int)) = ((d + t : Nat) : Int) := by rw [wr (by omega) (by omega)]; omega
        rw [if_neg (by omega), ep, if_pos (by omega), if_pos (by rw [up_length]; omega), if_pos (by rw [up_length]; omega), up_get hp, up_get hdl]
        simp only [Int.toNat_natCast]
        rw [up_set, up_set, up_length]
        obtain ⟨p, hpe⟩ : ∃ p, p = d + t := ⟨_, rfl⟩
        have hp' : p < x.length := by omega
        have esw : (x.set d (x[d + t]'hp)).set (d + t) x[d] = swp x d p hdl hp' := by subst hpe; rfl
        have hbit' : x[p].testBit c = true := by subst hpe; exact hbit
        rw [esw]
        obtain ⟨s, hs⟩ : ∃ s, s = swp x d p hdl hp' := ⟨_, rfl⟩
        rw [← hs]
        have hsl : s.length = x.length := by rw [hs, swp_length]
        have hsd : d < s.length := by omega
        have hg : ∀ j, (h : j < s.length) → s[j] = if p = j then x[d] else if d = j then x[p] else x[j]'(by omega) := by
          intro j h; subst hs; exact swp_get hdl hp' h
        have hsm : ∀ r ∈ s, r ∈ x := fun r hr => swp_mem hdl hp' (hs ▸ hr)
        have hdp : d ≤ p := by omega
        obtain ⟨lead, hlead⟩ : ∃ lead, lead = s[d] := ⟨_, rfl⟩
        have elead : lead = x[p] := by
          rw [hlead, hg d hsd]
          by_cases z : p = d
          · rw [if_pos z]; simp only [z]
          · rw [if_neg z, if_pos rfl]
        have lbit : lead.testBit c = true := by rw [elead]; exact hbit'
        have llow : ∀ b, b < c → lead.testBit b = false := by rw [elead]; exact hlow p hdp hp'
        have llt : lead < 2 ^ N := by rw [elead]; exact hb _ (List.getElem_mem hp')
        have hlen : (s.mapIdx (clrBut d c lead)).length = x.length := by rw [List.length_mapIdx]; exact hsl
        have hm : ∀ j, (h : j < (s.mapIdx (clrBut d c lead)).length) → (s.mapIdx (clrBut d c lead))[j] = if j = d then lead else clr c lead (s[j]'(by rw [List.length_mapIdx] at h; exact h)) := by
          intro j h
          rw [List.getElem_mapIdx]
          unfold clrBut
          by_cases z : j = d
          · rw [if_pos z, if_pos z]; refine Eq.trans ?_ hlead.symm; simp only [z]
          · rw [if_neg z, if_neg z]
        have i1 := i_clear (x := s) (d := d) (c := c) (by omega) hsd (by omega) (fun y hy => b62 y (hsm y hy))
        rw [hsl] at i1
        rw [i1, ← hlead]
        have htake : (s.mapIdx (clrBut d c lead)).take (d + 1) = (x.take d).map (clr c lead) ++ [lead] := by
          apply List.ext_getElem
          · simp; omega
          · intro j h1 h2
            rw [List.length_take, hlen] at h1
            rw [List.getElem_take, hm]
            by_cases z : j = d
            · have hle : ((x.take d).map (clr c lead)).length ≤ j := by rw [List.length_map, List.length_take, z]; exact Nat.min_le_left _ _
              rw [if_pos z, List.getElem_append_right hle]
              simp
            · have hjd : j < d := by omega
              rw [if_neg z, List.getElem_append_left (by simp; omega), List.getElem_map, List.getElem_take, hg j (by omega), if_neg (by omega), if_neg (by omega)]
        obtain ⟨R, C', e, hR, hSp⟩ := ih (s.mapIdx (clrBut d c lead)) (d + 1) (by rw [hlen]; exact hl) (by rw [hlen]; omega)
          (by
            intro y hy
            obtain ⟨j, hj, ej⟩ := List.getElem_of_mem hy
            rw [hm j hj] at ej
            rw [← ej]
            split
            · exact llt
            · exact clr_lt llt (hb _ (hsm _ (List.getElem_mem _))))
          (by
            intro j hj h b hbc
            have hjs : j < s.length := by rw [hlen] at h; omega
            rw [hm j h, if_neg (by omega)]
            rcases Nat.lt_or_ge b c with z | z
            · rw [clr_low (llow b z), hg j hjs]
              split
              · exact hlow d (Nat.le_refl _) hdl b z
              · rw [if_neg (by omega)]; exact hlow j (by omega) (by omega) b z
            · rw [show b = c by omega]; exact clr_bit lbit)
          ⟨C ++ [c], by
            rw [htake]
            exact RED.snoc (hC.clr (fun e h => llow e (hCc e h)) (fun e h b hb' => llow b (Nat.lt_trans hb' (hCc e h)))) lbit llow hCc (by
              intro y hy
              obtain ⟨z, hz, rfl⟩ := List.mem_map.mp hy
              exact clr_bit lbit), by
            intro e h
            rcases List.mem_append.mp h with h | h
            · exact Nat.lt_succ_of_lt (hCc e h)
            · rw [List.mem_singleton] at h; omega⟩
        refine ⟨R, C', e, hR, fun v => (hSp v).trans ⟨fun h => h.sub fun r hr => ?_, fun h => h.sub fun r hr => ?_⟩⟩
        · have sl : Sp x lead := by rw [elead]; exact Sp.mem (List.getElem_mem _)
          obtain ⟨j, hj, ej⟩ := List.getElem_of_mem hr
          rw [hm j hj] at ej
          rw [← ej]
          split
          · exact sl
          · exact Sp.clr sl (Sp.mem (hsm _ (List.getElem_mem _)))
        · have hdn : d < (s.mapIdx (clrBut d c lead)).length := by rw [hlen]; exact hdl
          have sl : Sp (s.mapIdx (clrBut d c lead)) lead := by
            have := hm d hdn
            rw [if_pos rfl] at this
            have hmem := Sp.mem (List.getElem_mem hdn)
            rw [this] at hmem
            exact hmem
          have sj : ∀ j, (h : j < s.length) → Sp (s.mapIdx (clrBut d c lead)) s[j] := by
            intro j h
            by_cases z : j = d
            · have ez : s[j] = lead := by rw [hlead]; simp only [z]
              rw [ez]; exact sl
            · have hj' : j < (s.mapIdx (clrBut d c lead)).length := by rw [List.length_mapIdx]; exact h
              have := hm j hj'
              rw [if_neg z] at this
              refine Sp.of_clr (c := c) sl ?_
              rw [← this]; exact Sp.mem (List.getElem_mem hj')
          obtain ⟨j, hj, ej⟩ := List.getElem_of_mem hr
          rw [← ej]
          by_cases z : j = d
          · have hps : p < s.length := hsl.symm ▸ hp'
            have := sj p hps
            rw [hg p hps, if_pos rfl] at this
            have ez : x[j] = x[d] := by simp only [z]
            rw [ez]; exact this
          · by_cases z2 : j = p
            · have ez : x[j] = x[p] := by simp only [z2]
              rw [ez, ← elead]; exact sl
            · have hjs : j < s.length := hsl.symm ▸ hj
              have := sj j hjs
              rw [hg j hjs, if_neg (fun e => z2 e.symm), if_neg (fun e => z e.symm)] at this
              exact this
    · rw [decide_eq_false (by rw [up_length]; omega), i_ech_end hN hd]
      refine ⟨x.take d, C, rfl, hC, fun v => ?_⟩
      rw [List.take_of_length_le (by omega)]
theorem i_ech_v {N : Nat} (hN : N ≤ 62) {ln : List Nat} (hl : ln.length ≤ 1048576) (hb : ∀ x ∈ ln, x < 2 ^ N) :
    ∃ R C, impl_echelon.d (up ln) = some (up R) ∧ RED R C ∧ (∀ v, Sp R v ↔ Sp ln v) := by
  rw [impl_echelon.d_eq]
  unfold slices_Clone_int64_int64.f
  rw [if_pos (by rw [up_length]; omega), bind_some']
  exact i_ech_loop hN 0 (by omega) ln 0 (by omega) (by omega) hb (fun j _ h b hb => by omega) ⟨[], trivial, fun d hd => nomatch hd⟩
end Go.Proofs.Ytbalkaphibnpcaa.P
end
section
namespace Go.Proofs.Ytbalkaphibnpcaa.P
open Go.RowKit Go.Proofs.YtbalkaphibnpcaaW.PrintWords Go.Proofs.YtbalkaphibnpcaaW.PrintLast Go.Proofs.YtbalkaphibnpcaaW.PrintMore
set_option linter.unusedVariables false
set_option linter.unusedSimpArgs false
theorem s_bit_v {a k : Nat} (ha : a < 4611686018427387904) (hk : k ≤ 62) : spec_l02Bit.f (a : Int) (k : Int) = some (if a.testBit k = true then 1 else 0) := by
  unfold spec_l02Bit.f
  rw [u64_id (by omega) (by omega), if_pos (by omega), bit_test (by omega) (by omega)]
theorem s_find_none {N k : Nat} (hk : k ≤ 61) {ln : List Nat} {out : List Int} (hl : ln.length ≤ 17592186044416) (hb : ∀ x ∈ ln, x < 4611686018427387904)
    (h : ∀ j, (hj : j < ln.length) → ln[j].testBit k = false) : spec_l02Echelon.l1d (N : Int) (up ln) out (k : Int) (-1) 0 = spec_l02Echelon.l0d (N : Int) (up ln) out ((k + 1 : Nat) : Int) := by
  have key : ∀ i, i ≤ ln.length → spec_l02Echelon.l1d (N : Int) (up ln) out (k : Int) (-1) (i : Int) = spec_l02Echelon.l0d (N : Int) (up ln) out ((k + 1 : Nat) : Int) := by
    apply down
    · rw [spec_l02Echelon.l1d_eq, if_neg (by rw [up_length]; omega), spec_l02Echelon.j2d_eq, if_neg (by decide), if_pos (by decide), wrS (n := 62) (by omega) (by omega)]
    · intro i hi e
      rw [spec_l02Echelon.l1d_eq, if_pos (by rw [up_length]; omega), spec_l02Echelon.j2d_eq, if_pos (by decide), if_pos (by omega), if_pos (by rw [up_length]; omega), up_get hi, s_bit_v (hb _ (List.getElem_mem hi)) (by omega), bind_some',
        if_neg (by rw [bit_if_neg (h i hi)]; exact id), wrS hi hl, e]
  exact key 0 (by omega)
theorem s_find_some {N k : Nat} (hk : k ≤ 61) {ln : List Nat} {out : List Int} (hl : ln.length ≤ 17592186044416) (hb : ∀ x ∈ ln, x < 4611686018427387904)
    {j : Nat} (hj : j < ln.length) (hbit : ln[j].testBit k = true) (h : ∀ t, (ht : t < j) → (ln[t]'(by omega)).testBit k = false) :
    spec_l02Echelon.l1d (N : Int) (up ln) out (k : Int) (-1) 0 = spec_l02Echelon.l2d (N : Int) (up (ln.set j 0)) out (k : Int) (ln[j] : Int) 0 := by
  have key : ∀ i, i ≤ j → spec_l02Echelon.l1d (N : Int) (up ln) out (k : Int) (-1) (i : Int) = spec_l02Echelon.l2d (N : Int) (up (ln.set j 0)) out (k : Int) (ln[j] : Int) 0 := by
    apply down
    · have e2 : ∀ i : Int, spec_l02Echelon.j2d (N : Int) (up ln) out (k : Int) (j : Int) i false = spec_l02Echelon.l2d (N : Int) (up (ln.set j 0)) out (k : Int) (ln[j] : Int) 0 := by
        intro i
        rw [spec_l02Echelon.j2d_eq, if_neg (by decide), if_neg (by omega), if_pos (by omega), if_pos (by rw [up_length]; omega), up_get hj, Int.toNat_natCast]
        rw [← up_set]; rfl
      rw [spec_l02Echelon.l1d_eq, if_pos (by rw [up_length]; omega), spec_l02Echelon.j2d_eq, if_pos (by decide), if_pos (by omega), if_pos (by rw [up_length]; omega), up_get hj, s_bit_v (hb _ (List.getElem_mem hj)) (by omega), bind_some',
        if_pos (by rw [bit_if_pos hbit]; trivial), spec_l02Echelon.l1d_eq]
      have e3 : decide ((j : Int) < 0) = false := decide_eq_false (by omega)
      rw [e3]
      split
      · exact e2 _
      · exact e2 _
    · intro i hi e
      have hi' : i < ln.length := by omega
      rw [spec_l02Echelon.l1d_eq, if_pos (by rw [up_length]; omega), spec_l02Echelon.j2d_eq, if_pos (by decide), if_pos (by omega), if_pos (by rw [up_length]; omega), up_get hi', s_bit_v (hb _ (List.getElem_mem hi')) (by omega), bind_some',
        if_neg (by rw [bit_if_neg (h i hi)]; exact id), wrS hi' hl, e]
  exact key 0 (by omega)
theorem s_clear_left {N k lead : Nat} (hk : k ≤ 61) {ln : List Nat} {out : List Int} (hl : ln.length ≤ 17592186044416) (hb : ∀ x ∈ ln, x < 4611686018427387904) (hlead : lead < 4611686018427387904) :
    spec_l02Echelon.l2d (N : Int) (up ln) out (k : Int) (lead : Int) 0 = spec_l02Echelon.l3d (N : Int) (up (ln.map (clr k lead))) out (k : Int) (lead : Int) 0 := by
  refine map_gen (F := fun a i => spec_l02Echelon.l2d (N : Int) (up a) out (k : Int) (lead : Int) i) (n := ln.length) (g := fun _ x => clr k lead x) (fun _ x => x < 4611686018427387904) ln rfl
    (fun i h => hb _ (List.getElem_mem h)) (fun _ _ h => clr_lt62 hlead h) ?_ ?_
  · intro i a hi ha hq _ _
    show spec_l02Echelon.l2d (N : Int) (up a) out (k : Int) (lead : Int) (i : Int) = spec_l02Echelon.l2d (N : Int) (up (a.set i (clr k lead a[i]))) out (k : Int) (lead : Int) ((i + 1 : Nat) : Int)
    rw [spec_l02Echelon.l2d_eq, if_pos (by rw [up_length]; omega), if_pos (by omega), up_get hi, s_bit_v (hq i hi) (by omega), bind_some', wrS (n := ln.length) (by omega) hl]
    by_cases c : a[i].testBit k = true
    · rw [if_pos (by rw [bit_if_pos c]; trivial), bxor (by have := hq i hi; omega) (by omega), Int.toNat_natCast, up_set]
      unfold clr; rw [if_pos c]
    · have c' := Bool.eq_false_iff.mpr c
      rw [if_neg (by rw [bit_if_neg c']; exact id), clr_set hi c']
  · show spec_l02Echelon.l2d (N : Int) (up (ln.mapIdx fun _ x => clr k lead x)) out (k : Int) (lead : Int) (ln.length : Int) = _
    rw [mapIdx_const, spec_l02Echelon.l2d_eq, if_neg (by rw [up_length, List.length_map]; omega)]
theorem s_clear_out {N k lead : Nat} (hk : k ≤ 61) {left : List Int} {on : List Nat} (hl : on.length ≤ 62) (hb : ∀ x ∈ on, x < 4611686018427387904) (hlead : lead < 4611686018427387904) :
    spec_l02Echelon.l3d (N : Int) left (up on) (k : Int) (lead : Int) 0 = spec_l02Echelon.l0d (N : Int) left (up (on.map (clr k lead) ++ [lead])) ((k + 1 : Nat) : Int) := by
  refine map_gen (F := fun a i => spec_l02Echelon.l3d (N : Int) left (up a) (k : Int) (lead : Int) i) (n := on.length) (g := fun _ x => clr k lead x) (fun _ x => x < 4611686018427387904) on rfl
    (fun i h => hb _ (List.getElem_mem h)) (fun _ _ h => clr_lt62 hlead h) ?_ ?_
  · intro i a hi ha hq _ _
    show spec_l02Echelon.l3d (N : Int) left (up a) (k : Int) (lead : Int) (i : Int) = spec_l02Echelon.l3d (N : Int) left (up (a.set i (clr k lead a[i]))) (k : Int) (lead : Int) ((i + 1 : Nat) : Int)
    rw [spec_l02Echelon.l3d_eq, if_pos (by rw [up_length]; omega), if_pos (by omega), up_get hi, s_bit_v (hq i hi) (by omega), bind_some', wrS (n := on.length) (by omega) (by omega)]
    by_cases c : a[i].testBit k = true
    · rw [if_pos (by rw [bit_if_pos c]; trivial), bxor (by have := hq i hi; omega) (by omega), Int.toNat_natCast, up_set]
      unfold clr; rw [if_pos c]
    · have c' := Bool.eq_false_iff.mpr c
      rw [if_neg (by rw [bit_if_neg c']; exact id), clr_set hi c']
  · show spec_l02Echelon.l3d (N : Int) left (up (on.mapIdx fun _ x => clr k lead x)) (k : Int) (lead : Int) (on.length : Int) = _
    rw [mapIdx_const, spec_l02Echelon.l3d_eq, if_neg (by rw [up_length, List.length_map]; omega), if_pos (by rw [up_length, List.length_map]; omega), wrS (n := 62) (by omega) (by omega), up_append]; rfl
/-- the first place that has the bit, or none -/
theorem first_bit (l : List Nat) (k : Nat) : (∀ j, (h : j < l.length) → l[j].testBit k = false) ∨
    ∃ j, ∃ h : j < l.length, l[j].testBit k = true ∧ ∀ t, (ht : t < j) → (l[t]'(by omega)).testBit k = false := by
  induction l with
  | nil => exact .inl fun j h => by simp at h
  | cons x l ih =>
    by_cases c : x.testBit k = true
    · exact .inr ⟨0, by simp, c, fun t ht => by omega⟩
    · have c' := Bool.eq_false_iff.mpr c
      rcases ih with ih | ⟨j, h, a, b⟩
      · refine .inl fun j h => ?_
        cases j with
        | zero => exact c'
        | succ j => exact ih j (by simpa using h)
      · refine .inr ⟨j + 1, by simpa using h, a, fun t ht => ?_⟩
        cases t with
        | zero => exact c'
        | succ t => exact b t (by omega)
theorem s_ech_loop {N : Nat} (hN : N ≤ 62) : ∀ k, k ≤ N → ∀ (left out : List Nat), left.length ≤ 17592186044416 → (∀ x ∈ left, x < 2 ^ N ∧ ∀ b, b < k → x.testBit b = false) →
    (∀ x ∈ out, x < 2 ^ N) → out.length ≤ k → (∃ C, RED out C ∧ ∀ d ∈ C, d < k) →
    ∃ R C, spec_l02Echelon.l0d (N : Int) (up left) (up out) (k : Int) = some (up R) ∧ RED R C ∧ (∀ v, Sp R v ↔ Sp (out ++ left) v) ∧ (∀ x ∈ R, x < 2 ^ N) ∧ R.length ≤ N ∧ (∀ d ∈ C, d < N) := by
  apply down
  · intro left out hll hleft hout hlen ⟨C, hC, hd⟩
    refine ⟨out, C, ?_, hC, fun v => ⟨fun h => h.mono fun r hr => by simp [hr], fun h => h.sub fun r hr => ?_⟩, hout, hlen, hd⟩
    · rw [spec_l02Echelon.l0d_eq, if_neg (by omega)]
    · rcases List.mem_append.mp hr with hr | hr
      · exact Sp.mem hr
      · rw [low_zero (hleft r hr).1 (hleft r hr).2]; exact Sp.zero
  · intro k hk ih left out hll hleft hout hlen ⟨C, hC, hd⟩
    have b62 : ∀ x ∈ left, x < 4611686018427387904 := fun x hx => pow62 hN (hleft x hx).1
    rw [spec_l02Echelon.l0d_eq, if_pos (by omega)]
    rcases first_bit left k with h | ⟨j, hj, hbit, hfirst⟩
    · rw [s_find_none (by omega) hll b62 h]
      refine ih left out hll (fun x hx => ⟨(hleft x hx).1, fun b hb => ?_⟩) hout (by omega) ⟨C, hC, fun d hd' => Nat.lt_succ_of_lt (hd d hd')⟩
      rcases Nat.lt_or_ge b k with z | z
      · exact (hleft x hx).2 b z
      · obtain ⟨t, ht, e⟩ := List.getElem_of_mem hx
        rw [show b = k by omega, ← e]; exact h t ht
    · obtain ⟨lead, hlead⟩ : ∃ lead, lead = left[j] := ⟨_, rfl⟩
      have hmem : lead ∈ left := hlead ▸ List.getElem_mem hj
      have hl1 := (hleft lead hmem).1
      have hl2 := (hleft lead hmem).2
      rw [← hlead] at hbit
      have bset : ∀ x ∈ left.set j 0, x < 2 ^ N ∧ ∀ b, b < k → x.testBit b = false := by
        intro x hx
        rcases List.mem_or_eq_of_mem_set hx with hx | rfl
        · exact hleft x hx
        · exact ⟨Nat.two_pow_pos N, fun b _ => Nat.zero_testBit b⟩
      rw [s_find_some (by omega) hll b62 hj (by rw [← hlead]; exact hbit) hfirst, ← hlead,
        s_clear_left (by omega) (by rw [List.length_set]; exact hll) (fun x hx => pow62 hN (bset x hx).1) (pow62 hN hl1),
        s_clear_out (by omega) (by omega) (fun x hx => pow62 hN (hout x hx)) (pow62 hN hl1)]
      obtain ⟨R, C', e, hR, hs, hb, hlen', hd'⟩ := ih ((left.set j 0).map (clr k lead)) (out.map (clr k lead) ++ [lead]) (by simp; exact hll)
        (by
          intro x hx
          obtain ⟨y, hy, rfl⟩ := List.mem_map.mp hx
          refine ⟨clr_lt hl1 (bset y hy).1, fun b hb => ?_⟩
          rcases Nat.lt_or_ge b k with z | z
          · rw [clr_low (hl2 b z)]; exact (bset y hy).2 b z
          · rw [show b = k by omega]; exact clr_bit hbit)
        (by
          intro x hx
          rcases List.mem_append.mp hx with hx | hx
          · obtain ⟨y, hy, rfl⟩ := List.mem_map.mp hx
            exact clr_lt hl1 (hout y hy)
          · rw [List.mem_singleton] at hx; rw [hx]; exact hl1)
        (by simp; omega)
        ⟨C ++ [k], RED.snoc (hC.clr (fun d h => hl2 d (hd d h)) (fun d h b hb => hl2 b (Nat.lt_trans hb (hd d h)))) hbit hl2 hd (by
            intro s hs
            obtain ⟨y, hy, rfl⟩ := List.mem_map.mp hs
            exact clr_bit hbit), by
          intro d h
          rcases List.mem_append.mp h with h | h
          · exact Nat.lt_succ_of_lt (hd d h)
          · rw [List.mem_singleton] at h; omega⟩
      refine ⟨R, C', e, hR, fun v => (hs v).trans ⟨fun h => h.sub fun r hr => ?_, fun h => h.sub fun r hr => ?_⟩, hb, hlen', hd'⟩
      · have sl : Sp (out ++ left) lead := Sp.mem (by simp [hmem])
        rcases List.mem_append.mp hr with hr | hr
        · rcases List.mem_append.mp hr with hr | hr
          · obtain ⟨y, hy, rfl⟩ := List.mem_map.mp hr
            exact Sp.clr sl (Sp.mem (by simp [hy]))
          · rw [List.mem_singleton] at hr; rw [hr]; exact sl
        · obtain ⟨y, hy, rfl⟩ := List.mem_map.mp hr
          refine Sp.clr sl ?_
          rcases List.mem_or_eq_of_mem_set hy with hy | rfl
          · exact Sp.mem (by simp [hy])
          · exact Sp.zero
      · have sl : Sp (List.map (clr k lead) out ++ [lead] ++ List.map (clr k lead) (left.set j 0)) lead := Sp.mem (by simp)
        rcases List.mem_append.mp hr with hr | hr
        · exact Sp.of_clr sl (Sp.mem (List.mem_append.mpr (.inl (List.mem_append.mpr (.inl (List.mem_map.mpr ⟨r, hr, rfl⟩))))))
        · obtain ⟨t, ht, e⟩ := List.getElem_of_mem hr
          by_cases c : j = t
          · subst c; rw [← e, ← hlead]; exact sl
          · refine Sp.of_clr sl (Sp.mem (List.mem_append.mpr (.inr (List.mem_map.mpr ⟨r, ?_, rfl⟩))))
            rw [← e, ← List.getElem_set_ne (l := left) (a := 0) c (by simpa using ht)]
            exact List.getElem_mem _
theorem s_ech_v {N : Nat} (hN : N ≤ 62) {ln : List Nat} (hl : ln.length ≤ 1048576) (hb : ∀ x ∈ ln, x < 2 ^ N) :
    ∃ R C, spec_l02Echelon.d (N : Int) (up ln) = some (up R) ∧ RED R C ∧ (∀ v, Sp R v ↔ Sp ln v) ∧ (∀ x ∈ R, x < 2 ^ N) ∧ R.length ≤ N ∧ (∀ d ∈ C, d < N) := by
  obtain ⟨R, C, e, h⟩ := s_ech_loop hN 0 (by omega) ln [] (by omega) (fun x hx => ⟨hb x hx, fun b h => by omega⟩) (fun x hx => nomatch hx) (by simp) ⟨[], trivial, fun d hd => nomatch hd⟩
  refine ⟨R, C, ?_, by simpa using h⟩
  rw [spec_l02Echelon.d_eq]
  unfold spec_l00Own.f
  rw [bind_some', if_pos (by simp [up_length]; omega), bind_some', List.nil_append]
  exact e
/-- both sides: the one list of reduced rows with these sums -/
theorem ech_v {N : Nat} (hN : N ≤ 62) {ln : List Nat} (hl : ln.length ≤ 1048576) (hb : ∀ x ∈ ln, x < 2 ^ N) :
    ∃ R C, spec_l02Echelon.d (N : Int) (up ln) = some (up R) ∧ impl_echelon.d (up ln) = some (up R) ∧ RED R C ∧ (∀ v, Sp R v ↔ Sp ln v) ∧ (∀ x ∈ R, x < 2 ^ N) ∧ R.length ≤ N ∧ (∀ d ∈ C, d < N) := by
  obtain ⟨R, C, e, h, hs, hb', hl', hd⟩ := s_ech_v hN hl hb
  obtain ⟨R', C', e', h', hs'⟩ := i_ech_v hN hl hb
  obtain ⟨rfl, rfl⟩ := h.unique h' fun v => (hs v).trans (hs' v).symm
  exact ⟨R, C, e, e', h, hs, hb', hl', hd⟩
end Go.Proofs.Ytbalkaphibnpcaa.P
end
section
namespace Go.Proofs.Ytbalkaphibnpcaa.P
open Go.RowKit Go.Proofs.YtbalkaphibnpcaaW.PrintWords Go.Proofs.YtbalkaphibnpcaaW.PrintLast Go.Proofs.YtbalkaphibnpcaaW.PrintMore
set_option linter.unusedVariables false
set_option linter.unusedSimpArgs false
/-- a number of m places -/
def elemB (m x : Int) : Bool := decide (0 ≤ x) && decide (x < 2 ^ m.toNat)
theorem elems_up {N : Nat} {l : List Int} (h : l.all (elemB (N : Int)) = true) : ∃ ln : List Nat, l = up ln ∧ ∀ x ∈ ln, x < 2 ^ N := by
  rw [List.all_eq_true] at h
  have he : ∀ x ∈ l, 0 ≤ x ∧ x < 2 ^ N := fun x hx => by
    have := h x hx
    unfold elemB at this
    simpa using this
  refine ⟨l.map Int.toNat, (up_of fun x hx => (he x hx).1).symm, fun x hx => ?_⟩
  obtain ⟨y, hy, rfl⟩ := List.mem_map.mp hx
  have := he y hy
  have e : ((2 ^ N : Nat) : Int) = (2 : Int) ^ N := by simp
  omega
end Go.Proofs.Ytbalkaphibnpcaa.P
end
section
namespace Go.Proofs.Ytbalkaphibnpcaa.P
open Go.RowKit Go.Proofs.YtbalkaphibnpcaaW.PrintWords Go.Proofs.YtbalkaphibnpcaaW.PrintLast Go.Proofs.YtbalkaphibnpcaaW.PrintMore
set_option linter.unusedVariables false
set_option linter.unusedSimpArgs false
def matB (c : Int) (l : List Int) : Bool := (decide (1 ≤ c) && decide (c ≤ 10)) && (decide (l.length ≤ 10) && l.all (elemB c))
theorem mat_up {c : Int} {l : List Int} (h : matB c l = true) : ∃ N : Nat, ∃ ln : List Nat, c = (N : Int) ∧ 1 ≤ N ∧ N ≤ 10 ∧ l = up ln ∧ ln.length ≤ 10 ∧ ∀ x ∈ ln, x < 2 ^ N := by
  unfold matB at h
  simp only [Bool.and_eq_true, decide_eq_true_eq] at h
  obtain ⟨⟨h1, h2⟩, h3, h4⟩ := h
  obtain ⟨N, rfl⟩ : ∃ N : Nat, c = (N : Int) := ⟨c.toNat, by omega⟩
  obtain ⟨ln, rfl, hb⟩ := elems_up h4
  exact ⟨N, ln, rfl, by omega, by omega, rfl, by rwa [up_length] at h3, hb⟩
theorem one_shl {N : Nat} (h : N ≤ 60) : shl .i64 1 (N : Int) = ((2 ^ N : Nat) : Int) := by
  have h2 : 2 ^ N ≤ 2 ^ 60 := Nat.pow_le_pow_right (by omega) h
  have := shl_nat (a := 1) (c := N) (by omega) (by omega)
  rw [Nat.one_mul] at this
  exact this
theorem full_v {c : Int} (h1 : 1 ≤ c) (h2 : c ≤ 10) : wrap64 (shl .i64 1 c - 1) = 2 ^ c.toNat - 1 := by
  obtain ⟨N, rfl⟩ : ∃ N : Nat, c = (N : Int) := ⟨c.toNat, by omega⟩
  have h3 : 2 ^ N ≤ 2 ^ 10 := Nat.pow_le_pow_right (by omega) (by omega)
  have e : ((2 ^ N : Nat) : Int) = (2 : Int) ^ N := by simp
  rw [one_shl (by omega), Int.toNat_natCast, ← e]
  generalize 2 ^ N = G at h3
  rw [wr (by omega) (by omega)]
theorem within_v (x b : Int) : (if x ≥ 0 then some (decide (x ≤ b - 1)) else some false) = some (decide (0 ≤ x) && decide (x < b)) := by
  by_cases c : x ≥ 0
  · rw [if_pos c, decide_eq_true (show 0 ≤ x from c), Bool.true_and]
    congr 1; apply decide_eq_decide.mpr; omega
  · rw [if_neg c, decide_eq_false (show ¬ 0 ≤ x from c), Bool.false_and]
theorem i_mhas_v {c : Int} (h1 : 1 ≤ c) (h2 : c ≤ 10) (l : List Int) (x : Int) : impl_Matrix_has.f c l x = some (elemB c x) := by
  unfold impl_Matrix_has.f impl_within.f elemB
  rw [if_pos (by omega), full_v h1 h2, within_v, bind_some']
theorem i_ValidMatrix_v (c : Int) {l : List Int} (hl : l.length ≤ 17592186044416) : impl_ValidMatrix.d c l = some (matB c l) := by
  rw [impl_ValidMatrix.d_eq]
  unfold impl_within.f matB
  by_cases h1 : 1 ≤ c
  · rw [if_pos (by omega), bind_some']
    by_cases h2 : c ≤ 10
    · rw [if_pos (by simpa using h2)]
      by_cases h3 : l.length ≤ 10
      · rw [if_pos (by omega), slices_ContainsFunc_int64_int64_AT_impl_ValidMatrix_1.d_eq, slices_IndexFunc_int64_int64_AT_impl_ValidMatrix_1.d_eq]
        obtain ⟨v, e, d, _⟩ := index_gen (F := fun i => slices_IndexFunc_int64_int64_AT_impl_ValidMatrix_1.l0d l (l.length : Int) i c l) (n := l.length) (q := fun i => !(elemB c (rd l (i : Int))))
          (by show slices_IndexFunc_int64_int64_AT_impl_ValidMatrix_1.l0d l (l.length : Int) (l.length : Int) c l = _
              rw [slices_IndexFunc_int64_int64_AT_impl_ValidMatrix_1.l0d_eq, if_neg (by omega)])
          (by intro i hi
              show slices_IndexFunc_int64_int64_AT_impl_ValidMatrix_1.l0d l (l.length : Int) (i : Int) c l = _
              rw [slices_IndexFunc_int64_int64_AT_impl_ValidMatrix_1.l0d_eq, if_pos (by omega), if_pos (by omega), if_pos (by omega)]
              unfold impl_ValidMatrix_1.f
              rw [i_mhas_v h1 h2, bind_some', bind_some', wrS hi hl])
        have e' : slices_IndexFunc_int64_int64_AT_impl_ValidMatrix_1.l0d l (l.length : Int) 0 c l = some v := e
        rw [e', bind_some', bind_some', d, Bool.not_not, decide_eq_true h1, decide_eq_true h2, decide_eq_true h3]
        simp only [Bool.true_and]
        congr 1
        rw [← all_get]
        apply decide_eq_decide.mpr
        simp only [Bool.not_eq_false']
      · rw [if_neg (by omega), decide_eq_false h3]; simp
    · rw [if_neg (by simpa using h2), decide_eq_false h2]; simp
  · rw [if_neg (by omega), bind_some', if_neg (by decide), decide_eq_false h1]; simp
theorem s_l02Ok_v (c : Int) {l : List Int} (hl : l.length ≤ 17592186044416) : spec_l02Ok.d c l = some (matB c l) := by
  rw [spec_l02Ok.d_eq]
  unfold spec_l00In.f matB
  by_cases h1 : 1 ≤ c
  · rw [if_pos (by omega), bind_some']
    by_cases h2 : c ≤ 10
    · rw [if_pos (by simpa using h2), spec_l02Ok.j0d_eq]
      by_cases h3 : l.length ≤ 10
      · rw [if_neg (by simp; omega)]
        have := all_gen (F := fun i => spec_l02Ok.l0d i c l) (n := l.length) (q := fun i => elemB c (rd l (i : Int)))
          (by show spec_l02Ok.l0d (l.length : Int) c l = _
              rw [spec_l02Ok.l0d_eq, if_neg (by omega)])
          (by intro i hi
              show spec_l02Ok.l0d (i : Int) c l = _
              unfold elemB
              rw [spec_l02Ok.l0d_eq, if_pos (by omega), if_pos (by omega), u64_id (by omega) (by omega), if_pos (by omega), full_v h1 h2]
              unfold spec_l00In.f
              rw [within_v, bind_some', wrS hi hl])
        have this' : spec_l02Ok.l0d 0 c l = some (decide (∀ i, i < l.length → elemB c (rd l (i : Int)) = true)) := this
        rw [this', decide_eq_true h1, decide_eq_true h2, decide_eq_true h3]
        simp only [Bool.true_and]
        congr 1
        exact all_get
      · rw [if_pos (by simp; omega), decide_eq_false h3]; simp
    · rw [if_neg (by simpa using h2), spec_l02Ok.j0d_eq, if_pos rfl, decide_eq_false h2]; simp
  · rw [if_neg (by omega), bind_some', if_neg (by decide), spec_l02Ok.j0d_eq, if_pos rfl, decide_eq_false h1]; simp
end Go.Proofs.Ytbalkaphibnpcaa.P
end
section
namespace Go.Proofs.Ytbalkaphibnpcaa.P
open Go.RowKit Go.Proofs.YtbalkaphibnpcaaW.PrintWords Go.Proofs.YtbalkaphibnpcaaW.PrintLast Go.Proofs.YtbalkaphibnpcaaW.PrintMore
set_option linter.unusedVariables false
set_option linter.unusedSimpArgs false
theorem s_same_v {a b : List Int} (h : a.length ≤ 17592186044416) : spec_l00Same.d a b = some (decide (a = b)) := by
  rw [spec_l00Same.d_eq]
  by_cases hl : a.length = b.length
  · rw [if_pos (by omega)]
    have key : ∀ i, i ≤ a.length → spec_l00Same.l0d a b (i : Int) = some (decide (a.drop i = b.drop i)) := by
      apply down
      · rw [spec_l00Same.l0d_eq, if_neg (by omega)]; simp [hl]
      · intro i hi ih
        have hb : i < b.length := by omega
        rw [spec_l00Same.l0d_eq, if_pos (by omega), if_pos (by omega), if_pos (by omega), wrS hi h, rd_get hi, rd_get hb, ih]
        rw [List.drop_eq_getElem_cons hi, List.drop_eq_getElem_cons hb]
        by_cases c : a[i] = b[i]
        · rw [if_pos c]; simp only [List.cons.injEq, c, true_and]
        · rw [if_neg c]; simp only [List.cons.injEq, c, false_and, decide_false]
    have := key 0 (by omega)
    simpa using this
  · rw [if_neg (by omega)]
    have : a ≠ b := fun e => hl (by rw [e])
    simp [this]
theorem i_equal_v {a b : List Int} (h : a.length ≤ 17592186044416) : slices_Equal_int64_int64.d a b = some (decide (a = b)) := by
  rw [slices_Equal_int64_int64.d_eq]
  by_cases hl : a.length = b.length
  · rw [if_pos (by omega)]
    have key : ∀ i, i ≤ a.length → slices_Equal_int64_int64.l0d a b (a.length : Int) (i : Int) = some (decide (a.drop i = b.drop i)) := by
      apply down
      · rw [slices_Equal_int64_int64.l0d_eq, if_neg (by omega)]; simp [hl]
      · intro i hi ih
        have hb : i < b.length := by omega
        rw [slices_Equal_int64_int64.l0d_eq, if_pos (by omega), if_pos (by omega), if_pos (by omega), if_pos (by omega), wrS hi h, rd_get hi, rd_get hb, ih]
        rw [List.drop_eq_getElem_cons hi, List.drop_eq_getElem_cons hb]
        by_cases c : a[i] = b[i]
        · rw [if_pos c]; simp only [List.cons.injEq, c, true_and]
        · rw [if_neg c]; simp only [List.cons.injEq, c, false_and, decide_false]
    have := key 0 (by omega)
    simpa using this
  · rw [if_neg (by omega)]
    have : a ≠ b := fun e => hl (by rw [e])
    simp [this]
/-- a matrix in echelon form -/
noncomputable def spaceB (c : Int) (l : List Int) : Bool := matB c l && decide (impl_echelon.d l = some l)
theorem i_IsSpace_v (c : Int) {l : List Int} (hl : l.length ≤ 17592186044416) : impl_IsSpace.d c l = some (spaceB c l) := by
  rw [impl_IsSpace.d_eq, i_ValidMatrix_v c hl, bind_some']
  unfold spaceB
  by_cases h : matB c l = true
  · rw [if_pos h, h, Bool.true_and]
    obtain ⟨N, ln, rfl, hN1, hN, rfl, hlen, hb⟩ := mat_up h
    obtain ⟨R, C, e1, e2, _, _, _, hR, _⟩ := ech_v (N := N) (by omega) (ln := ln) (by omega) hb
    rw [e2, bind_some', i_equal_v (by rw [up_length]; omega), bind_some']
    congr 1; apply decide_eq_decide.mpr
    exact ⟨fun e => by rw [e], fun e => Option.some.inj e⟩
  · rw [if_neg h, Bool.eq_false_iff.mpr h]; rfl
theorem s_l02Space_v (c : Int) {l : List Int} (hl : l.length ≤ 17592186044416) : spec_l02Space.d c l = some (spaceB c l) := by
  rw [spec_l02Space.d_eq, s_l02Ok_v c hl, bind_some']
  unfold spaceB
  by_cases h : matB c l = true
  · rw [if_pos h, h, Bool.true_and]
    obtain ⟨N, ln, rfl, hN1, hN, rfl, hlen, hb⟩ := mat_up h
    obtain ⟨R, C, e1, e2, _, _, _, hR, _⟩ := ech_v (N := N) (by omega) (ln := ln) (by omega) hb
    rw [e1, bind_some', s_same_v (by rw [up_length]; omega), bind_some', e2]
    congr 1; apply decide_eq_decide.mpr
    exact ⟨fun e => by rw [e], fun e => Option.some.inj e⟩
  · rw [if_neg h, Bool.eq_false_iff.mpr h]; rfl
/-- a space's rows are reduced -/
theorem space_up {c : Int} {l : List Int} (h : spaceB c l = true) : ∃ N : Nat, ∃ R C : List Nat, c = (N : Int) ∧ 1 ≤ N ∧ N ≤ 10 ∧ l = up R ∧ R.length ≤ 10 ∧ (∀ x ∈ R, x < 2 ^ N) ∧ RED R C ∧ ∀ d ∈ C, d < N := by
  unfold spaceB at h
  simp only [Bool.and_eq_true, decide_eq_true_eq] at h
  obtain ⟨N, ln, rfl, hN1, hN, rfl, hlen, hb⟩ := mat_up h.1
  obtain ⟨R, C, e1, e2, hR, _, hRb, hRl, hd⟩ := ech_v (N := N) (by omega) (ln := ln) (by omega) hb
  have e : R = ln := by
    have := h.2; rw [e2] at this
    exact up_inj (Option.some.inj this)
  subst e
  exact ⟨N, R, C, rfl, hN1, hN, rfl, hlen, hb, hR, hd⟩
end Go.Proofs.Ytbalkaphibnpcaa.P
end
section
namespace Go.Proofs.Ytbalkaphibnpcaa.P
open Go.RowKit Go.Proofs.YtbalkaphibnpcaaW.PrintWords Go.Proofs.YtbalkaphibnpcaaW.PrintLast Go.Proofs.YtbalkaphibnpcaaW.PrintMore
set_option linter.unusedVariables false
set_option linter.unusedSimpArgs false
theorem sum_v {N : Nat} (hN : N ≤ 62) {u v : List Nat} (d : Int) (hu : u.length ≤ 1000) (hv : v.length ≤ 1000) (bu : ∀ x ∈ u, x < 2 ^ N) (bv : ∀ x ∈ v, x < 2 ^ N) :
    ∃ S C, spec_l02Sum.d (N : Int) (up u) d (up v) = some ((N : Int), up S) ∧ impl_Matrix_sum.d (N : Int) (up u) d (up v) = some ((N : Int), up S) ∧ RED S C ∧ (∀ x, Sp S x ↔ Sp (u ++ v) x) ∧ (∀ x ∈ S, x < 2 ^ N) ∧ S.length ≤ N ∧ ∀ e ∈ C, e < N := by
  obtain ⟨S, C, e1, e2, h⟩ := ech_v (N := N) hN (ln := u ++ v) (by rw [List.length_append]; omega) (fun x hx => by
    rcases List.mem_append.mp hx with z | z
    · exact bu x z
    · exact bv x z)
  refine ⟨S, C, ?_, ?_, h⟩
  · rw [spec_l02Sum.d_eq]
    unfold spec_l00Own.f
    rw [bind_some', if_pos (by rw [up_length]; simp; omega), bind_some', List.nil_append, if_pos (by rw [up_length, up_length]; omega), ← up_append, e1, bind_some']
  · rw [impl_Matrix_sum.d_eq]
    unfold slices_Concat_int64_int64.f
    have : ([up u, up v] : List (List Int)).flatten = up (u ++ v) := by rw [up_append]; simp
    rw [this, if_pos (by rw [up_length, List.length_append]; omega), bind_some', e2, bind_some']
end Go.Proofs.Ytbalkaphibnpcaa.P
end
section
namespace Go.Proofs.Ytbalkaphibnpcaa.P
open Go.RowKit Go.Proofs.YtbalkaphibnpcaaW.PrintWords Go.Proofs.YtbalkaphibnpcaaW.PrintLast Go.Proofs.YtbalkaphibnpcaaW.PrintMore
set_option linter.unusedVariables false
set_option linter.unusedSimpArgs false
/-- the law's own matrix, as the program has it -/
def cv (x : S59) : S63 := ⟨x.f0, x.f1⟩
theorem T24_get {l : List S59} {i : Nat} (h : i < l.length) : rd_T59 l (i : Int) = l[i] := by simp [rd_T59, List.getD, h]
theorem T26_get {l : List S63} {i : Nat} (h : i < l.length) : rd_T63 l (i : Int) = l[i] := by simp [rd_T63, List.getD, h]
theorem szMatrix_v {c : Int} {l : List Int} {n : Int} (h0 : 0 ≤ n) (hn : n ≤ 1048576) (hm : l.length ≤ maxLen) : laws_szMatrix.f c l n = some (if (l.length : Int) ≤ n then n - l.length else -1) := by
  unfold laws_szMatrix.f laws_szInt64S.f
  unfold maxLen at hm
  rw [wr (by omega) (by omega)]
  by_cases h : (l.length : Int) ≤ n
  · rw [if_neg (by omega), bind_some', if_neg (by omega), if_pos h]
  · rw [if_pos (by omega), bind_some', if_pos (by omega), if_neg h]
theorem szMatrixS_v {l : List S59} (hm : l.length ≤ maxLen) (hx : ∀ x ∈ l, x.f1.length ≤ maxLen) : ∃ t, laws_szMatrixS.d l 1048576 = some t ∧ (0 ≤ t → l.length ≤ 1048576 ∧ ∀ x ∈ l, x.f1.length ≤ 1048576) := by
  unfold maxLen at hm
  rw [laws_szMatrixS.d_eq, wr (by omega) (by omega)]
  by_cases h : (l.length : Int) ≤ 1048576
  · rw [if_neg (by omega)]
    have key : ∀ i, i ≤ l.length → ∀ n : Int, 0 ≤ n → n ≤ 1048576 → ∃ t, laws_szMatrixS.l0d l n (i : Int) = some t ∧ (0 ≤ t → ∀ x ∈ l.drop i, x.f1.length ≤ 1048576) := by
      apply down
      · intro n h0 h1
        refine ⟨n, ?_, fun _ x hx => ?_⟩
        · rw [laws_szMatrixS.l0d_eq, if_neg (by omega)]
        · rw [List.drop_length] at hx; cases hx
      · intro i hi ih n h0 h1
        rw [laws_szMatrixS.l0d_eq, if_pos (by omega), if_pos (by omega), T24_get hi, szMatrix_v h0 h1 (hx _ (List.getElem_mem hi)), bind_some', wrS hi (by omega)]
        by_cases c : (l[i].f1.length : Int) ≤ n
        · rw [if_pos c, if_neg (by omega)]
          obtain ⟨t, e, ht⟩ := ih (n - l[i].f1.length) (by omega) (by omega)
          refine ⟨t, e, fun z x hx => ?_⟩
          rw [List.drop_eq_getElem_cons hi] at hx
          rcases List.mem_cons.mp hx with rfl | hx
          · omega
          · exact ht z x hx
        · rw [if_neg c, if_pos (by decide)]
          exact ⟨-1, rfl, fun z => absurd z (by decide)⟩
    obtain ⟨t, e, ht⟩ := key 0 (by omega) (1048576 - l.length) (by omega) (by omega)
    exact ⟨t, e, fun z => ⟨by omega, by simpa using ht z⟩⟩
  · rw [if_pos (by omega)]
    exact ⟨-1, rfl, fun z => absurd z (by decide)⟩
theorem toMatrix_v {c : Int} {l : List Int} (h : l.length ≤ 1048576) : laws_toMatrix.d c l = some (c, l) := by
  rw [laws_toMatrix.d_eq, toInt64S_v (by omega), bind_some']
theorem toMatrixS_v {l : List S59} (h : l.length ≤ 1048576) (hx : ∀ x ∈ l, x.f1.length ≤ 1048576) : laws_toMatrixS.d l = some (l.map cv) := by
  rw [laws_toMatrixS.d_eq, if_pos (by omega), if_pos (by omega), Int.toNat_natCast]
  refine map_gen (F := fun a i => laws_toMatrixS.l0d l a i) (n := l.length) (g := fun i _ => cv (l.getD i z59)) (fun _ _ => True) _ (by simp) (fun _ _ => trivial) (fun _ _ _ => trivial) ?_ ?_
  · intro i a hi ha _ _ _
    show laws_toMatrixS.l0d l a (i : Int) = laws_toMatrixS.l0d l (a.set i (cv (l.getD i z59))) ((i + 1 : Nat) : Int)
    have hi' : i < l.length := by omega
    rw [laws_toMatrixS.l0d_eq, if_pos (by omega), if_pos (by omega), T24_get hi', toMatrix_v (hx _ (List.getElem_mem hi')), bind_some', if_pos (by omega), Int.toNat_natCast, wrS hi' (by omega)]
    congr 2
    simp [List.getD, hi', cv]
  · show laws_toMatrixS.l0d l _ (l.length : Int) = _
    rw [laws_toMatrixS.l0d_eq, if_neg (by omega)]
    congr 1
    apply List.ext_getElem
    · simp
    · intro i h1 h2
      simp at h1
      simp [List.getD, h1]
theorem eqMatrix_self {c : Int} {l : List Int} (h : l.length ≤ 1048576) : laws_eqMatrix.d c l c l = some true := by
  rw [laws_eqMatrix.d_eq, if_pos rfl, eqInt64S_self (by omega), bind_some', if_pos rfl]
theorem eqMatrixS_self {l : List S63} (h : l.length ≤ 1048576) (hx : ∀ x ∈ l, x.f1.length ≤ 1048576) : laws_eqMatrixS.d l l = some true := by
  rw [laws_eqMatrixS.d_eq, if_pos rfl]
  have key : ∀ i, i ≤ l.length → laws_eqMatrixS.l0d l l (i : Int) = some true := by
    apply down
    · rw [laws_eqMatrixS.l0d_eq, if_neg (by omega)]
    · intro i hi e
      rw [laws_eqMatrixS.l0d_eq, if_pos (by omega), if_pos (by omega), if_pos (by omega), T26_get hi, eqMatrix_self (hx _ (List.getElem_mem hi)), bind_some', if_pos rfl, wrS hi (by omega), e]
  exact key 0 (by omega)
theorem cv_len {l : List S59} (hx : ∀ x ∈ l, x.f1.length ≤ 1048576) : ∀ x ∈ l.map cv, x.f1.length ≤ 1048576 := by
  intro x h
  obtain ⟨y, hy, rfl⟩ := List.mem_map.mp h
  exact hx y hy
end Go.Proofs.Ytbalkaphibnpcaa.P
end
section
namespace Go.Proofs.Ytbalkaphibnpcaa.P
open Go.RowKit Go.Proofs.YtbalkaphibnpcaaW.PrintWords Go.Proofs.YtbalkaphibnpcaaW.PrintLast Go.Proofs.YtbalkaphibnpcaaW.PrintMore
set_option linter.unusedVariables false
set_option linter.unusedSimpArgs false
theorem inner_gen {β : Type} {F : Int → Option β} {n : Nat} {q : Nat → Bool} {E X : Option β} (hend : F (n : Int) = E)
    (heq : ∀ i : Nat, i < n → F (i : Int) = if q i = true then F ((i + 1 : Nat) : Int) else X) : F 0 = if (∀ i, i < n → q i = true) then E else X := by
  have key : ∀ i, i ≤ n → ((∀ j, i ≤ j → j < n → q j = true) → F (i : Int) = E) ∧ ((¬ ∀ j, i ≤ j → j < n → q j = true) → F (i : Int) = X) := by
    apply down
    · exact ⟨fun _ => hend, fun z => absurd (fun j a b => by omega) z⟩
    · intro i hi ⟨e1, e2⟩
      rw [heq i hi]
      by_cases hq : q i = true
      · rw [if_pos hq]
        refine ⟨fun z => e1 fun j a b => z j (by omega) b, fun z => e2 fun w => z fun j a b => ?_⟩
        rcases Nat.lt_or_ge i j with v | v
        · exact w j v b
        · rw [show j = i by omega]; exact hq
      · rw [if_neg hq]
        exact ⟨fun z => absurd (z i (by omega) hi) hq, fun _ => rfl⟩
  obtain ⟨k1, k2⟩ := key 0 (by omega)
  have k1' : (∀ j, 0 ≤ j → j < n → q j = true) → F 0 = E := k1
  have k2' : (¬ ∀ j, 0 ≤ j → j < n → q j = true) → F 0 = X := k2
  by_cases z : ∀ i, i < n → q i = true
  · rw [if_pos z]; exact k1' fun j _ b => z j b
  · rw [if_neg z]; exact k2' fun w => z fun j b => w j (by omega) b
/-- the place i of a list of matrices -/
def pl (l : List S63) (i : Nat) : S63 := l.getD i z63
theorem T26_getD {l : List S63} {i : Nat} : rd_T63 l (i : Int) = pl l i := rfl
/-- the place i of a list of matrices is a space like the first one -/
noncomputable def likeB (L : List S63) (i : Nat) : Bool := spaceB (pl L i).f0 (pl L i).f1 && (decide ((pl L i).f0 = (pl L 0).f0) && decide ((pl L i).f1.length = (pl L 0).f1.length))
/-- and another one than those ahead of it -/
noncomputable def newB (L : List S63) (i : Nat) : Bool := decide (∀ k, k < i → (pl L i).f1 ≠ (pl L k).f1)
noncomputable def codeB (L : List S63) : Bool := decide (1 ≤ L.length ∧ L.length ≤ 400 ∧ ∀ i, i < L.length → likeB L i = true ∧ newB L i = true)
theorem D26_len {L : List S63} (hx : ∀ x ∈ L, x.f1.length ≤ 1048576) (i : Nat) : (pl L i).f1.length ≤ 1048576 := by
  by_cases h : i < L.length
  · have : pl L i = L[i] := by simp [pl, List.getD, h]
    rw [this]; exact hx _ (List.getElem_mem h)
  · have : pl L i = z63 := by simp [pl, List.getD, h]
    rw [this]; exact Nat.zero_le _
theorem s_l06Ok_v {L : List S63} (hl : L.length ≤ 1048576) (hx : ∀ x ∈ L, x.f1.length ≤ 1048576) : spec_l06Ok.d L = some (codeB L) := by
  rw [spec_l06Ok.d_eq]
  unfold spec_l00In.f codeB
  by_cases h1 : 1 ≤ L.length
  · rw [if_pos (by omega), bind_some']
    by_cases h2 : L.length ≤ 400
    · rw [if_pos (by simp; omega)]
      have := all_gen (F := fun i => spec_l06Ok.l0d L i) (n := L.length) (q := fun i => likeB L i && newB L i)
        (by show spec_l06Ok.l0d L (L.length : Int) = _
            rw [spec_l06Ok.l0d_eq, if_neg (by omega)])
        (by intro i hi
            show spec_l06Ok.l0d L (i : Int) = if (likeB L i && newB L i) = true then spec_l06Ok.l0d L ((i + 1 : Nat) : Int) else some false
            have inner : spec_l06Ok.l1d L (i : Int) 0 = if newB L i = true then spec_l06Ok.l0d L ((i + 1 : Nat) : Int) else some false := by
              have := inner_gen (F := fun k => spec_l06Ok.l1d L (i : Int) k) (n := i) (q := fun k => decide ((pl L i).f1 ≠ (pl L k).f1)) (E := spec_l06Ok.l0d L ((i + 1 : Nat) : Int)) (X := some false)
                (by show spec_l06Ok.l1d L (i : Int) (i : Int) = _
                    rw [spec_l06Ok.l1d_eq, if_neg (by omega), wrS hi (by omega)])
                (by intro k hk
                    show spec_l06Ok.l1d L (i : Int) (k : Int) = if decide ((pl L i).f1 ≠ (pl L k).f1) = true then spec_l06Ok.l1d L (i : Int) ((k + 1 : Nat) : Int) else some false
                    have := D26_len hx i
                    rw [spec_l06Ok.l1d_eq, if_pos (by omega), if_pos (by omega), if_pos (by omega), if_pos (by omega), if_pos (by omega), T26_getD, T26_getD, s_same_v (by omega), bind_some', wrS hk (by omega)]
                    by_cases e : (pl L i).f1 = (pl L k).f1
                    · rw [if_pos (by simpa using e), if_neg (by simp [e])]
                    · rw [if_neg (by simpa using e), if_pos (by simpa using e)])
              have this' : spec_l06Ok.l1d L (i : Int) 0 = _ := this
              rw [this']
              unfold newB
              simp only [decide_eq_true_eq]
            have := D26_len hx i
            rw [spec_l06Ok.l0d_eq, if_pos (by omega), if_pos (by omega), T26_getD, s_l02Space_v _ (by omega), bind_some', show rd_T63 L 0 = pl L 0 from rfl]
            unfold likeB
            by_cases a : spaceB (pl L i).f0 (pl L i).f1 = true
            · rw [if_pos a, if_pos (by omega), a, Bool.true_and]
              by_cases b : (pl L i).f0 = (pl L 0).f0
              · rw [if_pos b, spec_l06Ok.j1d_eq, decide_eq_true b, Bool.true_and]
                by_cases c : (pl L i).f1.length = (pl L 0).f1.length
                · rw [if_neg (by simp [c]), inner, decide_eq_true c, Bool.true_and]
                · have c' : ¬ ((pl L i).f1.length : Int) = ((pl L 0).f1.length : Int) := by omega
                  rw [if_pos (by simpa using c'), decide_eq_false c, if_neg (by simp)]
              · rw [if_neg b, spec_l06Ok.j1d_eq, if_pos rfl, decide_eq_false b, if_neg (by simp)]
            · rw [if_neg a, spec_l06Ok.j1d_eq, if_pos rfl, Bool.eq_false_iff.mpr a, if_neg (by simp)])
      have this' : spec_l06Ok.l0d L 0 = _ := this
      rw [this']
      congr 1; apply decide_eq_decide.mpr
      simp only [Bool.and_eq_true]
      exact ⟨fun z => ⟨h1, h2, z⟩, fun z => z.2.2⟩
    · rw [if_neg (by simp; omega), decide_eq_false (fun z => h2 z.2.1)]
  · rw [if_neg (by omega), bind_some', if_neg (by decide), decide_eq_false (fun z => h1 z.1)]
theorem take_getD {L : List S63} {i k : Nat} (h : k < i) : pl (L.take i) k = pl L k := by
  simp [pl, List.getD, List.getElem?_take, h]
theorem i_ValidSpaces_v {L : List S63} (hl : L.length ≤ 1048576) (hx : ∀ x ∈ L, x.f1.length ≤ 1048576) : impl_ValidSpaces.d L = some (codeB L) := by
  rw [impl_ValidSpaces.d_eq]
  unfold impl_Matrix.f
  rw [bind_some']
  unfold impl_within.f
  by_cases h1 : 1 ≤ L.length
  · rw [if_pos (by omega), bind_some']
    by_cases h2 : L.length ≤ 400
    · rw [if_pos (by simp; omega)]
      have := all_gen (F := fun i => impl_ValidSpaces.l0d L L (L.length : Int) i) (n := L.length) (q := fun i => likeB L i && decide (∀ k, k < i → ¬ ((pl L i).f0 = (pl L k).f0 ∧ (pl L i).f1 = (pl L k).f1)))
        (by show impl_ValidSpaces.l0d L L (L.length : Int) (L.length : Int) = _
            rw [impl_ValidSpaces.l0d_eq, if_neg (by omega)])
        (by intro i hi
            show impl_ValidSpaces.l0d L L (L.length : Int) (i : Int) = if (likeB L i && decide (∀ k, k < i → ¬ ((pl L i).f0 = (pl L k).f0 ∧ (pl L i).f1 = (pl L k).f1))) = true then impl_ValidSpaces.l0d L L (L.length : Int) ((i + 1 : Nat) : Int) else some false
            have hlt : (L.take i).length = i := by rw [List.length_take]; omega
            have inner : impl_ValidSpaces.l1d L L (L.length : Int) (i : Int) (L.take i) ((L.take i).length : Int) 0 (pl L i).f0 (pl L i).f1 = if (∀ k, k < i → ¬ ((pl L i).f0 = (pl L k).f0 ∧ (pl L i).f1 = (pl L k).f1)) then impl_ValidSpaces.l0d L L (L.length : Int) ((i + 1 : Nat) : Int) else some false := by
              have := inner_gen (F := fun k => impl_ValidSpaces.l1d L L (L.length : Int) (i : Int) (L.take i) ((L.take i).length : Int) k (pl L i).f0 (pl L i).f1) (n := i) (q := fun k => decide (¬ ((pl L i).f0 = (pl L k).f0 ∧ (pl L i).f1 = (pl L k).f1))) (E := impl_ValidSpaces.l0d L L (L.length : Int) ((i + 1 : Nat) : Int)) (X := some false)
                (by show impl_ValidSpaces.l1d L L (L.length : Int) (i : Int) (L.take i) ((L.take i).length : Int) (i : Int) (pl L i).f0 (pl L i).f1 = _
                    rw [impl_ValidSpaces.l1d_eq, if_neg (by omega), wrS hi (by omega)])
                (by intro k hk
                    show impl_ValidSpaces.l1d L L (L.length : Int) (i : Int) (L.take i) ((L.take i).length : Int) (k : Int) (pl L i).f0 (pl L i).f1 = if decide (¬ ((pl L i).f0 = (pl L k).f0 ∧ (pl L i).f1 = (pl L k).f1)) = true then impl_ValidSpaces.l1d L L (L.length : Int) (i : Int) (L.take i) ((L.take i).length : Int) ((k + 1 : Nat) : Int) (pl L i).f0 (pl L i).f1 else some false
                    have := D26_len hx i
                    rw [impl_ValidSpaces.l1d_eq, if_pos (by omega), if_pos (by omega), if_pos (by omega), T26_getD, take_getD hk, impl_SameMatrix.d_eq, wrS hk (by omega)]
                    by_cases e : (pl L i).f0 = (pl L k).f0
                    · rw [if_pos e, i_equal_v (by omega), bind_some', bind_some']
                      by_cases e2 : (pl L i).f1 = (pl L k).f1
                      · rw [if_pos (by simpa using e2), if_neg (by simp [e, e2])]
                      · rw [if_neg (by simpa using e2), if_pos (by simp [e2])]
                    · rw [if_neg e, bind_some', if_neg (by decide), if_pos (by simp [e])])
              have this' : impl_ValidSpaces.l1d L L (L.length : Int) (i : Int) (L.take i) ((L.take i).length : Int) 0 (pl L i).f0 (pl L i).f1 = _ := this
              rw [this']
              simp only [decide_eq_true_eq]
            have := D26_len hx i
            rw [impl_ValidSpaces.l0d_eq, if_pos (by omega), if_pos (by omega), if_pos (by omega), T26_getD, i_IsSpace_v _ (by omega), bind_some', show rd_T63 L 0 = pl L 0 from rfl]
            unfold likeB
            by_cases a : spaceB (pl L i).f0 (pl L i).f1 = true
            · rw [if_pos a, if_pos (by omega), a, Bool.true_and]
              by_cases b : (pl L i).f0 = (pl L 0).f0
              · rw [if_pos b, impl_ValidSpaces.j1d_eq, decide_eq_true b, Bool.true_and]
                by_cases c : (pl L i).f1.length = (pl L 0).f1.length
                · rw [if_neg (by simp [c]), if_pos (by omega), if_pos (by omega), bind_some', Int.toNat_natCast, inner, decide_eq_true c, Bool.true_and]
                  simp only [decide_eq_true_eq]
                · have c' : ¬ ((pl L i).f1.length : Int) = ((pl L 0).f1.length : Int) := by omega
                  rw [if_pos (by simpa using c'), decide_eq_false c, if_neg (by simp)]
              · rw [if_neg b, impl_ValidSpaces.j1d_eq, if_pos rfl, decide_eq_false b, if_neg (by simp)]
            · rw [if_neg a, impl_ValidSpaces.j1d_eq, if_pos rfl, Bool.eq_false_iff.mpr a, if_neg (by simp)])
      have this' : impl_ValidSpaces.l0d L L (L.length : Int) 0 = _ := this
      rw [this']
      congr 1
      unfold codeB
      apply decide_eq_decide.mpr
      simp only [Bool.and_eq_true, decide_eq_true_eq]
      refine ⟨fun z => ⟨h1, h2, fun i hi => ⟨(z i hi).1, ?_⟩⟩, fun z i hi => ⟨(z.2.2 i hi).1, fun k hk e => ?_⟩⟩
      · unfold newB
        rw [decide_eq_true_eq]
        intro k hk e
        have li := (z i hi).1
        have lk := (z k (by omega)).1
        unfold likeB at li lk
        simp only [Bool.and_eq_true, decide_eq_true_eq] at li lk
        exact (z i hi).2 k hk ⟨li.2.1.trans lk.2.1.symm, e⟩
      · have := (z.2.2 i hi).2
        unfold newB at this
        rw [decide_eq_true_eq] at this
        exact this k hk e.2
    · rw [if_neg (by simp; omega)]
      unfold codeB
      rw [decide_eq_false (fun z => h2 z.2.1)]
  · rw [if_neg (by omega), bind_some', if_neg (by decide)]
    unfold codeB
    rw [decide_eq_false (fun z => h1 z.1)]
end Go.Proofs.Ytbalkaphibnpcaa.P
end
section
namespace Go.Proofs.Ytbalkaphibnpcaa.P
open Go.RowKit Go.Proofs.YtbalkaphibnpcaaW.PrintWords Go.Proofs.YtbalkaphibnpcaaW.PrintLast Go.Proofs.YtbalkaphibnpcaaW.PrintMore
set_option linter.unusedVariables false
set_option linter.unusedSimpArgs false
/-- the matrices that marks from a on make of these -/
def tallym : List S63 → Int → List S63 × Int
  | [], a => ([], a)
  | x :: l, a => (⟨a, iota (a + 1) x.f1.length⟩ :: (tallym l (a + 1 + x.f1.length)).1, (tallym l (a + 1 + x.f1.length)).2)
theorem tallym_length (l : List S63) : ∀ a, (tallym l a).1.length = l.length := by
  induction l with
  | nil => intro a; rfl
  | cons x l ih => intro a; simp [tallym, ih]
theorem tallym_le {l : List S63} {B : Nat} (hx : ∀ x ∈ l, x.f1.length ≤ B) : ∀ a, a ≤ (tallym l a).2 ∧ (tallym l a).2 ≤ a + (l.length * (B + 1) : Nat) := by
  induction l with
  | nil => intro a; simp [tallym]
  | cons x l ih =>
    intro a
    have h1 := ih (fun y hy => hx y (List.mem_cons_of_mem _ hy)) (a + 1 + x.f1.length)
    have h2 := hx x List.mem_cons_self
    have e : ((x :: l).length * (B + 1) : Nat) = l.length * (B + 1) + (B + 1) := by rw [List.length_cons, Nat.succ_mul]
    show a ≤ (tallym l (a + 1 + x.f1.length)).2 ∧ (tallym l (a + 1 + x.f1.length)).2 ≤ a + ((x :: l).length * (B + 1) : Nat)
    rw [e]
    omega
theorem tallym_snoc (l : List S63) (x : S63) : ∀ a, tallym (l ++ [x]) a = ((tallym l a).1 ++ [⟨(tallym l a).2, iota ((tallym l a).2 + 1) x.f1.length⟩], (tallym l a).2 + 1 + x.f1.length) := by
  induction l with
  | nil => intro a; simp [tallym]
  | cons y l ih => intro a; simp [tallym, ih]
theorem markMatrixS_v {l : List S63} {a : Int} (h : l.length ≤ 1048576) (hx : ∀ x ∈ l, x.f1.length ≤ 1048576) (h0 : 0 ≤ a) (h1 : a ≤ 1000000000000000) :
    laws_markMatrixS.d l a = some ((tallym l a).2, (tallym l a).1) := by
  have key : ∀ i, i ≤ l.length → laws_markMatrixS.l0d ((tallym (l.take i) a).1 ++ l.drop i) (tallym (l.take i) a).2 (i : Int) = some ((tallym l a).2, (tallym l a).1) := by
    apply down
    · rw [laws_markMatrixS.l0d_eq, if_neg (by simp [tallym_length]), List.take_length, List.drop_length, List.append_nil]
    · intro i hi ih
      have hlt : (tallym (l.take i) a).1.length = i := by rw [tallym_length, List.length_take]; omega
      have hlen : ((tallym (l.take i) a).1 ++ l.drop i).length = l.length := by rw [List.length_append, hlt, List.length_drop]; omega
      have e1 : rd_T63 ((tallym (l.take i) a).1 ++ l.drop i) (i : Int) = l[i] := by
        rw [T26_get (by omega), List.getElem_append_right (by omega)]
        simp [hlt]
      have b1 := tallym_le (l := l.take i) (B := 1048576) (fun x hx' => hx x (List.mem_of_mem_take hx')) a
      have b2 : (l.take i).length * (1048576 + 1) ≤ 1048576 * (1048576 + 1) := Nat.mul_le_mul_right _ (by rw [List.length_take]; omega)
      have b3 := hx _ (List.getElem_mem hi)
      rw [laws_markMatrixS.l0d_eq, if_pos (by omega), if_pos (by omega), e1, wr (x := (tallym (l.take i) a).2 + 1) (by omega) (by omega), markInt64S_v (by omega) (by omega) (by omega), bind_some', wrS hi (by omega), ← ih, List.take_succ_eq_append_getElem hi, tallym_snoc]
      congr 1
      rw [Int.toNat_natCast, List.set_append_right _ _ (by omega), hlt, Nat.sub_self, List.drop_eq_getElem_cons hi, List.set_cons_zero, List.append_assoc]
      rfl
  rw [laws_markMatrixS.d_eq]
  have := key 0 (by omega)
  simpa [tallym] using this
theorem tallym_big {l : List S63} (h : l.length ≤ 1048576) (hx : ∀ x ∈ l, x.f1.length ≤ 1048576) (a : Int) : a ≤ (tallym l a).2 ∧ (tallym l a).2 ≤ a + 1099512676352 := by
  have b1 := tallym_le (l := l) (B := 1048576) hx a
  have b2 : l.length * (1048576 + 1) ≤ 1048576 * (1048576 + 1) := Nat.mul_le_mul_right _ h
  omega
end Go.Proofs.Ytbalkaphibnpcaa.P
end
section
namespace Go.Proofs.Ytbalkaphibnpcaa.P
open Go.RowKit Go.Proofs.YtbalkaphibnpcaaW.PrintWords Go.Proofs.YtbalkaphibnpcaaW.PrintLast Go.Proofs.YtbalkaphibnpcaaW.PrintMore
set_option linter.unusedVariables false
set_option linter.unusedSimpArgs false
theorem near_v {c : Int} {l : List Int} {d : Int} {k : List Int} (h1 : spaceB c l = true) (h2 : spaceB d k = true) (e : c = d) : ∃ v : Int, v ≤ 20 ∧ spec_l02Distance.d c l d k = some v ∧ impl_Matrix_distance.d d k c l = some v := by
  obtain ⟨N, R, C, rfl, n1, hN, rfl, hl, hb, hR, hC⟩ := space_up h1
  obtain ⟨N', R', C', e', _, hN', rfl, hl', hb', hR', hC'⟩ := space_up h2
  subst e
  have en : N' = N := by omega
  subst en
  obtain ⟨S, D, s1, s2, hS, sS, sb, sl, _⟩ := sum_v (N := N') (by omega) (u := R) (v := R') (N' : Int) (by omega) (by omega) hb hb'
  obtain ⟨S', D', t1, t2, hS', sS', sb', sl', _⟩ := sum_v (N := N') (by omega) (u := R') (v := R) (N' : Int) (by omega) (by omega) hb' hb
  have comm : ∀ {A B : List Nat} {x : Nat}, Sp (A ++ B) x → Sp (B ++ A) x := fun z => z.mono fun r hr => by
    rcases List.mem_append.mp hr with w | w
    · exact List.mem_append.mpr (.inr w)
    · exact List.mem_append.mpr (.inl w)
  have es : S' = S := (hS'.unique hS fun x => (sS' x).trans ⟨fun z => (sS x).mpr (comm z), fun z => comm ((sS x).mp z)⟩).1
  subst es
  refine ⟨2 * (S'.length : Int) - R.length - R'.length, by omega, ?_, ?_⟩
  · rw [spec_l02Distance.d_eq, s1, bind_some']
    simp only [up_length]
    rw [wr (x := 2 * (S'.length : Int)) (by omega) (by omega), wr (x := 2 * (S'.length : Int) - (R.length : Int)) (by omega) (by omega), wr (by omega) (by omega)]
  · rw [impl_Matrix_distance.d_eq, t2, bind_some']
    unfold impl_size_int64_71.f
    simp only [bind_some', up_length]
    rw [wr (x := 2 * (S'.length : Int)) (by omega) (by omega), wr (x := 2 * (S'.length : Int) - (R'.length : Int)) (by omega) (by omega), wr (by omega) (by omega)]
    congr 1
    omega
theorem near_at {L : List S63} (h : codeB L = true) {c : Int} {k : List Int} (hk : spaceB c k = true) (hc : c = (pl L 0).f0) {i : Nat} (hi : i < L.length) :
    ∃ v : Int, v ≤ 20 ∧ spec_l02Distance.d (pl L i).f0 (pl L i).f1 c k = some v ∧ impl_Matrix_distance.d c k (pl L i).f0 (pl L i).f1 = some v := by
  unfold codeB at h
  rw [decide_eq_true_eq] at h
  have li := (h.2.2 i hi).1
  unfold likeB at li
  simp only [Bool.and_eq_true, decide_eq_true_eq] at li
  exact near_v li.1 hk (li.2.1.trans hc.symm)
theorem near_loop {L : List S63} (hl : L.length ≤ 1048576) (h : codeB L = true) {c : Int} {k : List Int} (hk : spaceB c k = true) (hc : c = (pl L 0).f0) : ∀ i, i ≤ L.length → ∀ (b : Int) (o : List Int), o.length ≤ i →
    ∃ r : Int × List Int × Int, r.2.1.length ≤ L.length ∧ spec_NearestSpaces.l0d L b o (i : Int) c k = some r ∧ impl_NearestSpaces.l0d b o L (L.length : Int) (i : Int) c k = some r := by
  apply down
  · intro b o ho
    exact ⟨(b, o, 0), ho, by rw [spec_NearestSpaces.l0d_eq, if_neg (by omega)], by rw [impl_NearestSpaces.l0d_eq, if_neg (by omega)]⟩
  · intro i hi ih b o ho
    obtain ⟨v, _, v1, v2⟩ := near_at h hk hc hi
    have s : spec_NearestSpaces.l0d L b o (i : Int) c k = if v < b then spec_NearestSpaces.l0d L v [(i : Int)] ((i + 1 : Nat) : Int) c k else if v = b then spec_NearestSpaces.l0d L b (o ++ [(i : Int)]) ((i + 1 : Nat) : Int) c k else spec_NearestSpaces.l0d L b o ((i + 1 : Nat) : Int) c k := by
      rw [spec_NearestSpaces.l0d_eq, if_pos (by omega), if_pos (by omega), T26_getD, v1, bind_some', wrS hi (by omega), bind_some', if_pos (show ([] : List Int).length < 17592186044416 by decide), if_pos (show o.length < 17592186044416 by omega), List.nil_append]
    have m : impl_NearestSpaces.l0d b o L (L.length : Int) (i : Int) c k = if v < b then impl_NearestSpaces.l0d v [(i : Int)] L (L.length : Int) ((i + 1 : Nat) : Int) c k else if v = b then impl_NearestSpaces.l0d b (o ++ [(i : Int)]) L (L.length : Int) ((i + 1 : Nat) : Int) c k else impl_NearestSpaces.l0d b o L (L.length : Int) ((i + 1 : Nat) : Int) c k := by
      rw [impl_NearestSpaces.l0d_eq, if_pos (by omega), if_pos (by omega), if_pos (by omega), T26_getD, v2, bind_some', wrS hi (by omega), if_pos (show ([] : List Int).length < 17592186044416 by decide), if_pos (show o.length < 17592186044416 by omega), List.nil_append]
    rw [s, m]
    by_cases z : v < b
    · rw [if_pos z, if_pos z]; exact ih v [(i : Int)] (by simp)
    · rw [if_neg z, if_neg z]
      by_cases y : v = b
      · rw [if_pos y, if_pos y]; exact ih b _ (by simp; omega)
      · rw [if_neg y, if_neg y]; exact ih b o (by omega)
theorem NearestSpaces_both {L : List S63} (hl : L.length ≤ 1048576) (hx : ∀ x ∈ L, x.f1.length ≤ 1048576) (c : Int) {k : List Int} (hk : k.length ≤ 1048576) :
    ∃ r : Int × List Int × Int, r.2.1.length ≤ 1048576 ∧ spec_NearestSpaces.d L c k = some r ∧ impl_NearestSpaces.d L c k = some r := by
  rw [spec_NearestSpaces.d_eq, impl_NearestSpaces.d_eq, s_l06Ok_v hl hx, i_ValidSpaces_v hl hx, bind_some', bind_some']
  have no : ∃ r : Int × List Int × Int, r.2.1.length ≤ 1048576 ∧ spec_NearestSpaces.j0d L true c k = some r ∧ impl_NearestSpaces.j0d L true c k = some r :=
    ⟨(0, [], 1), by simp, by rw [spec_NearestSpaces.j0d_eq, if_pos rfl], by rw [impl_NearestSpaces.j0d_eq, if_pos rfl]⟩
  by_cases h : codeB L = true
  · rw [if_pos h, if_pos h, s_l02Space_v c (l := k) (by omega), i_IsSpace_v c (l := k) (by omega), bind_some', bind_some']
    by_cases u : spaceB c k = true
    · have hL : 0 < L.length := by
        unfold codeB at h
        rw [decide_eq_true_eq] at h
        omega
      rw [u, spec_NearestSpaces.j0d_eq, impl_NearestSpaces.j0d_eq, if_neg (show ¬ (!true) = true by decide), if_neg (show ¬ (!true) = true by decide), if_pos (show 0 < (L.length : Int) by omega), if_pos (show 0 < (L.length : Int) by omega)]
      have e0 : rd_T63 L 0 = pl L 0 := rfl
      rw [e0]
      by_cases hc : c = (pl L 0).f0
      · rw [if_pos hc, if_pos hc]
        obtain ⟨v, hv, v1, v2⟩ := near_at h u hc hL
        obtain ⟨r, r1, r2, r3⟩ := near_loop hl h u hc 1 (by omega) v [0] (by simp)
        refine ⟨r, by omega, ?_, ?_⟩
        · have v1' : spec_l02Distance.d (rd_T63 L 0).f0 (rd_T63 L 0).f1 c k = some v := v1
          rw [spec_NearestSpaces.l0d_eq, if_pos (by omega), if_pos (by omega), v1', bind_some', if_pos (show v < 21 by omega), bind_some', if_pos (show ([] : List Int).length < 17592186044416 by decide), List.nil_append, show wrap64 ((0 : Int) + 1) = ((1 : Nat) : Int) from by rw [wr (by omega) (by omega)]; rfl]
          exact r2
        · have v2' : impl_Matrix_distance.d c k (rd_T63 L 0).f0 (rd_T63 L 0).f1 = some v := v2
          rw [impl_NearestSpaces.l0d_eq, if_pos (by omega), if_pos (by omega), if_pos (by omega), v2', bind_some', show wrap64 ((0 : Int) + 1) = ((1 : Nat) : Int) from by rw [wr (by omega) (by omega)]; rfl]
          by_cases z : v < 20
          · rw [if_pos z, if_pos (show ([] : List Int).length < 17592186044416 by decide), List.nil_append]
            exact r3
          · have z' : v = 20 := by omega
            subst z'
            rw [if_neg z, if_pos rfl, if_pos (show ([] : List Int).length < 17592186044416 by decide), List.nil_append]
            exact r3
      · rw [if_neg hc, if_neg hc]
        exact ⟨(0, [], 2), by simp, rfl, rfl⟩
    · rw [Bool.eq_false_iff.mpr u]; exact no
  · rw [if_neg h, if_neg h]; exact no
theorem szMatrixS_w {l : List S59} (hm : l.length ≤ maxLen) (hx : ∀ x ∈ l, x.f1.length ≤ maxLen) : ∃ t, laws_szMatrixS.d l 1048576 = some t ∧ t ≤ 1048576 := by
  unfold maxLen at hm
  rw [laws_szMatrixS.d_eq, wr (by omega) (by omega)]
  by_cases h : (l.length : Int) ≤ 1048576
  · rw [if_neg (by omega)]
    have key : ∀ i, i ≤ l.length → ∀ n : Int, 0 ≤ n → n ≤ 1048576 → ∃ t, laws_szMatrixS.l0d l n (i : Int) = some t ∧ t ≤ 1048576 := by
      apply down
      · intro n h0 h1
        exact ⟨n, by rw [laws_szMatrixS.l0d_eq, if_neg (by omega)], h1⟩
      · intro i hi ih n h0 h1
        rw [laws_szMatrixS.l0d_eq, if_pos (by omega), if_pos (by omega), T24_get hi, szMatrix_v h0 h1 (hx _ (List.getElem_mem hi)), bind_some', wrS hi (by omega)]
        by_cases c : (l[i].f1.length : Int) ≤ n
        · rw [if_pos c, if_neg (by omega)]
          exact ih (n - l[i].f1.length) (by omega) (by omega)
        · rw [if_neg c, if_pos (by decide)]
          exact ⟨-1, rfl, by decide⟩
    exact key 0 (by omega) (1048576 - l.length) (by omega) (by omega)
  · rw [if_pos (by omega)]
    exact ⟨-1, rfl, by decide⟩
theorem NearestSpaces_law (l : List S59) (c : Int) (k : List Int) (h0 : l.length ≤ maxLen) (h1 : ∀ x ∈ l, (Lit.int .i64 x.f0).wf = true ∧ (x.f1.length ≤ maxLen ∧ ∀ y ∈ x.f1, (Lit.int .i64 y).wf = true)) (h3 : k.length ≤ maxLen) : laws_FnExactNearestSpaces.d l c k = some true := by
  obtain ⟨t, e, ht⟩ := szMatrixS_v h0 fun x hx => (h1 x hx).2.1
  obtain ⟨t', e', ht'⟩ := szMatrixS_w h0 fun x hx => (h1 x hx).2.1
  have et : t' = t := by rw [e] at e'; exact (Option.some.inj e').symm
  subst et
  rw [laws_FnExactNearestSpaces.d_eq, e, bind_some']
  by_cases n : t' < 0
  · rw [if_pos n]
  · rw [if_neg n, szMatrix_v (by omega) ht' h3, bind_some']
    obtain ⟨hl, hx⟩ := ht (by omega)
    by_cases n2 : (k.length : Int) ≤ t'
    · rw [if_pos n2, if_neg (by omega)]
      have hk : k.length ≤ 1048576 := by omega
      have hx' := cv_len hx
      have hl' : (l.map cv).length ≤ 1048576 := by rw [List.length_map]; exact hl
      obtain ⟨⟨b, R, z⟩, r1, e1, e2⟩ := NearestSpaces_both hl' hx' c hk
      have rl : R.length ≤ 1048576 := r1
      have ti := toMatrixS_v hl hx
      have tmx := toMatrix_v (c := c) hk
      have es := eqInt64S_self (a := R) (by omega)
      have t2 := tallym_big hl' hx' 1
      have mk := markMatrixS_v hl' hx' (a := 1) (by omega) (by omega)
      have mx : laws_markMatrix.d c k (tallym (l.map cv) 1).2 = some ((tallym (l.map cv) 1).2 + k.length, iota (tallym (l.map cv) 1).2 k.length) := by
        rw [laws_markMatrix.d_eq, markInt64S_v (by omega) (by omega) (by omega), bind_some']
      rw [ti, bind_some', tmx, bind_some', e1, bind_some', bind_some', bind_some', e2, bind_some', if_pos rfl, es, bind_some', if_pos rfl, laws_FnExactNearestSpaces.j0d_eq, if_neg (by simp), ti, bind_some', eqMatrixS_self hl' hx', bind_some', if_pos rfl, tmx, bind_some', eqMatrix_self hk, bind_some', if_pos rfl, mk, bind_some', mx, bind_some',
        if_neg (by show ¬ (tallym (l.map cv) 1).2 + (k.length : Int) < 0; omega), if_pos rfl, es, bind_some', if_pos rfl, laws_FnExactNearestSpaces.j1d_eq, if_neg (by simp), markInt64S_v (l := R) (a := 1) (by omega) (by omega) (by omega), bind_some']
      dsimp only
      rw [heldInt64S_v (n := R.length) (a := 1) (by omega) (by omega) (by omega), bind_some', if_neg (by omega), if_pos rfl, ti, bind_some', tmx, bind_some', e2, bind_some', if_pos rfl, es, bind_some', if_pos rfl, laws_FnExactNearestSpaces.j2d_eq, if_neg (by simp), heldInt64S_v (n := R.length) (a := 1) (by omega) (by omega) (by omega), bind_some', if_neg (by omega), if_pos rfl]
    · rw [if_neg n2, if_pos (by decide)]
end Go.Proofs.Ytbalkaphibnpcaa.P
end
section
namespace Go.Proofs.Ytbalkaphibnpcaa.P
open Go.RowKit Go.Proofs.YtbalkaphibnpcaaW.PrintWords Go.Proofs.YtbalkaphibnpcaaW.PrintLast Go.Proofs.YtbalkaphibnpcaaW.PrintMore
/-- The one pure statement of laws_FnExactNearestSpaces. -/
def laws_FnExactNearestSpaces.Pure : Prop := ∀ (l0 : List (S59)) (a1_0 : Int) (l1_1 : List Int), (l0.length ≤ maxLen) → (∀ x ∈ l0, (Lit.int .i64 x.f0).wf = true ∧ (x.f1.length ≤ maxLen ∧ ∀ y ∈ x.f1, (Lit.int .i64 y).wf = true)) → ((Lit.int .i64 a1_0).wf = true) → (l1_1.length ≤ maxLen) → (∀ x ∈ l1_1, (Lit.int .i64 x).wf = true) → ∃ k, laws_FnExactNearestSpaces.f k l0 a1_0 l1_1 = some true
end Go.Proofs.Ytbalkaphibnpcaa.P
end
section
namespace Go.Proofs.Ytbalkaphibnpcaa.Pure
theorem FnExactNearestSpaces : P.laws_FnExactNearestSpaces.Pure := fun l0 a1_0 l1_1 h0_ h1_ _ h3_ _ => P.IsLim.some_ (P.laws_FnExactNearestSpaces.lim l0 a1_0 l1_1) (P.NearestSpaces_law l0 a1_0 l1_1 h0_ h1_ h3_)
end Go.Proofs.Ytbalkaphibnpcaa.Pure
end
