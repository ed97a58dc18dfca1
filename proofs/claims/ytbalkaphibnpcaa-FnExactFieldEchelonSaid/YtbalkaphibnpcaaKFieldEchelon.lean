/- What the functions of the law FnExactFieldEchelon tell without rounds, and its pure statement. -/
import Derived.Test.YtbalkaphibnpcaaPx0
import Derived.Test.YtbalkaphibnpcaaPx1
import Derived.Test.YtbalkaphibnpcaaPx5
import Derived.Test.YtbalkaphibnpcaaPx6
import Derived.Test.YtbalkaphibnpcaaPx7
import Derived.Test.YtbalkaphibnpcaaPx3
import Derived.Test.YtbalkaphibnpcaaPx12
import Derived.Test.YtbalkaphibnpcaaPx13
import Derived.Test.YtbalkaphibnpcaaPx2
import Derived.Test.YtbalkaphibnpcaaPx14
import Derived.Test.YtbalkaphibnpcaaPx15
import Derived.Test.YtbalkaphibnpcaaPx16
import Derived.Test.YtbalkaphibnpcaaPx4
import Derived.Test.YtbalkaphibnpcaaPx9
import Derived.Test.YtbalkaphibnpcaaPx10
import Derived.Test.YtbalkaphibnpcaaPx11
import Derived.Test.YtbalkaphibnpcaaPx29
import Derived.Test.YtbalkaphibnpcaaPx8
import Derived.Test.YtbalkaphibnpcaaPx17
import Derived.Test.YtbalkaphibnpcaaPx48
import Derived.ProofKit
section
namespace Go.Proofs.Ytbalkaphibnpcaa.P
open Go.RowKit Go.Proofs.YtbalkaphibnpcaaW.PrintWords Go.Proofs.YtbalkaphibnpcaaW.PrintLast Go.Proofs.YtbalkaphibnpcaaW.PrintMore
def IsLim {α : Type} (g : Nat → Option α) (v : Option α) : Prop := (∀ k, LeO (g k) (g (k + 1))) ∧ ∀ r, v = some r ↔ ∃ k, g k = some r
theorem leO_le {α : Type} {g : Nat → Option α} (h : ∀ k, LeO (g k) (g (k + 1))) {j k : Nat} (hjk : j ≤ k) : LeO (g j) (g k) := by
  induction hjk with
  | refl => exact fun _ e => e
  | step _ ih => exact fun r e => h _ r (ih r e)
open Classical in
noncomputable def lim {α : Type} (g : Nat → Option α) : Option α := if h : ∃ r, ∃ k, g k = some r then some h.choose else none
theorem lim_spec {α : Type} {g : Nat → Option α} (h : ∀ k, LeO (g k) (g (k + 1))) : IsLim g (lim g) := by
  refine ⟨h, fun r => ?_⟩
  unfold lim
  by_cases hx : ∃ r, ∃ k, g k = some r
  · rw [dif_pos hx]
    obtain ⟨k, hk⟩ := hx.choose_spec
    constructor
    · intro e; exact ⟨k, by rw [hk]; exact e⟩
    · rintro ⟨j, hj⟩
      have a := leO_le h (Nat.le_max_left j k) _ hj
      have b := leO_le h (Nat.le_max_right j k) _ hk
      rw [a] at b; exact b.symm
  · rw [dif_neg hx]
    constructor
    · intro e; cases e
    · rintro ⟨k, hk⟩; exact absurd ⟨r, k, hk⟩ hx
theorem IsLim.unique {α : Type} {g : Nat → Option α} {v v' : Option α} (h : IsLim g v) (h' : IsLim g v') : v = v' :=
  Option.ext fun r => (h.2 r).trans (h'.2 r).symm
theorem IsLim.const {α : Type} (v : Option α) : IsLim (fun _ => v) v := ⟨fun _ _ e => e, fun _ => ⟨fun e => ⟨0, e⟩, fun ⟨_, e⟩ => e⟩⟩
theorem IsLim.ite {α : Type} {c : Prop} [Decidable c] {g g' : Nat → Option α} {v v' : Option α} (h : IsLim g v) (h' : IsLim g' v') :
    IsLim (fun k => if c then g k else g' k) (if c then v else v') := by
  by_cases hc : c
  · simp only [if_pos hc]; exact h
  · simp only [if_neg hc]; exact h'
theorem IsLim.bind {α β : Type} {g : Nat → Option α} {v : Option α} {q : Nat → α → Option β} {w : α → Option β}
    (h : IsLim g v) (hq : ∀ x, IsLim (fun k => q k x) (w x)) : IsLim (fun k => (g k).bind (q k)) (v.bind w) := by
  refine ⟨fun k r e => ?_, fun r => ?_⟩
  · obtain ⟨x, hx, hr⟩ := Option.bind_eq_some_iff.mp e
    exact Option.bind_eq_some_iff.mpr ⟨x, h.1 k x hx, (hq x).1 k r hr⟩
  · constructor
    · intro e
      obtain ⟨x, hx, hr⟩ := Option.bind_eq_some_iff.mp e
      obtain ⟨j, hj⟩ := (h.2 x).mp hx
      obtain ⟨k, hk⟩ := ((hq x).2 r).mp hr
      exact ⟨max j k, Option.bind_eq_some_iff.mpr ⟨x, leO_le h.1 (Nat.le_max_left j k) _ hj, leO_le (hq x).1 (Nat.le_max_right j k) _ hk⟩⟩
    · rintro ⟨k, e⟩
      obtain ⟨x, hx, hr⟩ := Option.bind_eq_some_iff.mp e
      exact Option.bind_eq_some_iff.mpr ⟨x, (h.2 x).mpr ⟨k, hx⟩, ((hq x).2 r).mpr ⟨k, hr⟩⟩
theorem IsLim.shift {α : Type} {g : Nat → Option α} {v : Option α} (h0 : g 0 = none) (h : IsLim (fun k => g (k + 1)) v) : IsLim g v := by
  refine ⟨fun k => ?_, fun r => ?_⟩
  · cases k with
    | zero => intro r e; rw [h0] at e; cases e
    | succ k => exact h.1 k
  · rw [h.2 r]
    constructor
    · rintro ⟨k, e⟩; exact ⟨k + 1, e⟩
    · rintro ⟨k, e⟩
      cases k with
      | zero => rw [h0] at e; cases e
      | succ k => exact ⟨k, e⟩
theorem IsLim.some_ {α : Type} {g : Nat → Option α} {v : Option α} {r : α} (h : IsLim g v) (e : v = some r) : ∃ k, g k = some r := (h.2 r).mp e
end Go.Proofs.Ytbalkaphibnpcaa.P
end
section
namespace Go.Proofs.Ytbalkaphibnpcaa.P
open Go.RowKit Go.Proofs.YtbalkaphibnpcaaW.PrintWords Go.Proofs.YtbalkaphibnpcaaW.PrintLast Go.Proofs.YtbalkaphibnpcaaW.PrintMore
set_option linter.unusedVariables false
set_option linter.unusedSimpArgs false
noncomputable def laws_toInt64S.l0d (x0 : List Int) (x3 : List Int) (x4 : Int) : Option (List Int) := lim (fun k => laws_toInt64S.l0 k x0 x3 x4)
theorem laws_toInt64S.l0lim (x0 : List Int) (x3 : List Int) (x4 : Int) : IsLim (fun k => laws_toInt64S.l0 k x0 x3 x4) (laws_toInt64S.l0d x0 x3 x4) := lim_spec (fun k => (laws_toInt64S.mono_l k) x0 x3 x4)
theorem laws_toInt64S.l0d_eq (x0 : List Int) (x3 : List Int) (x4 : Int) : laws_toInt64S.l0d x0 x3 x4 = if x4 < (x0.length : Int) then (if 0 ≤ x4 then (if x4 < (x3.length : Int) then (laws_toInt64S.l0d x0 (x3.set (x4 : Int).toNat (rd x0 x4)) (wrap64 (x4 + 1))) else (none)) else (none)) else (some x3) := by
  refine IsLim.unique (laws_toInt64S.l0lim _ _ _) ?_
  refine IsLim.shift (by rfl) ?_
  simp only [laws_toInt64S.l0]
  repeat' (first | exact IsLim.const _ | refine IsLim.ite ?_ ?_ | refine IsLim.bind ?_ (fun _ => ?_) | exact laws_toInt64S.l0lim ..)
noncomputable def laws_toInt64S.d (l0 : List Int) : Option (List Int) := lim (fun k => laws_toInt64S.f k l0)
theorem laws_toInt64S.lim (l0 : List Int) : IsLim (fun k => laws_toInt64S.f k l0) (laws_toInt64S.d l0) := lim_spec (fun k => laws_toInt64S.mono l0 k)
theorem laws_toInt64S.d_eq (l0 : List Int) : laws_toInt64S.d l0 = if 0 ≤ (l0.length : Int) then (if ((l0.length : Int) : Int).toNat ≤ 35184372088832 then (laws_toInt64S.l0d l0 (List.replicate ((l0.length : Int) : Int).toNat 0) 0) else (none)) else (none) := by
  refine IsLim.unique (laws_toInt64S.lim _) ?_
  unfold laws_toInt64S.f
  repeat' (first | exact IsLim.const _ | refine IsLim.ite ?_ ?_ | refine IsLim.bind ?_ (fun _ => ?_) | exact laws_toInt64S.l0lim ..)
noncomputable def laws_eqInt64S.l0d (x0 : List Int) (x1 : List Int) (x5 : Int) : Option (Bool) := lim (fun k => laws_eqInt64S.l0 k x0 x1 x5)
theorem laws_eqInt64S.l0lim (x0 : List Int) (x1 : List Int) (x5 : Int) : IsLim (fun k => laws_eqInt64S.l0 k x0 x1 x5) (laws_eqInt64S.l0d x0 x1 x5) := lim_spec (fun k => (laws_eqInt64S.mono_l k) x0 x1 x5)
theorem laws_eqInt64S.l0d_eq (x0 : List Int) (x1 : List Int) (x5 : Int) : laws_eqInt64S.l0d x0 x1 x5 = if x5 < (x0.length : Int) then (if 0 ≤ x5 then (if x5 < (x1.length : Int) then (if (rd x0 x5) = (rd x1 x5) then (laws_eqInt64S.l0d x0 x1 (wrap64 (x5 + 1))) else (some false)) else (none)) else (none)) else (some true) := by
  refine IsLim.unique (laws_eqInt64S.l0lim _ _ _) ?_
  refine IsLim.shift (by rfl) ?_
  simp only [laws_eqInt64S.l0]
  repeat' (first | exact IsLim.const _ | refine IsLim.ite ?_ ?_ | refine IsLim.bind ?_ (fun _ => ?_) | exact laws_eqInt64S.l0lim ..)
noncomputable def laws_eqInt64S.d (l0 : List Int) (l1 : List Int) : Option (Bool) := lim (fun k => laws_eqInt64S.f k l0 l1)
theorem laws_eqInt64S.lim (l0 : List Int) (l1 : List Int) : IsLim (fun k => laws_eqInt64S.f k l0 l1) (laws_eqInt64S.d l0 l1) := lim_spec (fun k => laws_eqInt64S.mono l0 l1 k)
theorem laws_eqInt64S.d_eq (l0 : List Int) (l1 : List Int) : laws_eqInt64S.d l0 l1 = if (l0.length : Int) = (l1.length : Int) then (laws_eqInt64S.l0d l0 l1 0) else (some false) := by
  refine IsLim.unique (laws_eqInt64S.lim _ _) ?_
  unfold laws_eqInt64S.f
  repeat' (first | exact IsLim.const _ | refine IsLim.ite ?_ ?_ | refine IsLim.bind ?_ (fun _ => ?_) | exact laws_eqInt64S.l0lim ..)
end Go.Proofs.Ytbalkaphibnpcaa.P
end
section
namespace Go.Proofs.Ytbalkaphibnpcaa.P
open Go.RowKit Go.Proofs.YtbalkaphibnpcaaW.PrintWords Go.Proofs.YtbalkaphibnpcaaW.PrintLast Go.Proofs.YtbalkaphibnpcaaW.PrintMore
set_option linter.unusedVariables false
set_option linter.unusedSimpArgs false
noncomputable def laws_szInt64SS.l0d (x0 : List (List Int)) (x1 : Int) (x5 : Int) : Option (Int) := lim (fun k => laws_szInt64SS.l0 k x0 x1 x5)
theorem laws_szInt64SS.l0lim (x0 : List (List Int)) (x1 : Int) (x5 : Int) : IsLim (fun k => laws_szInt64SS.l0 k x0 x1 x5) (laws_szInt64SS.l0d x0 x1 x5) := lim_spec (fun k => (laws_szInt64SS.mono_l k) x0 x1 x5)
theorem laws_szInt64SS.l0d_eq (x0 : List (List Int)) (x1 : Int) (x5 : Int) : laws_szInt64SS.l0d x0 x1 x5 = if x5 < (x0.length : Int) then (if 0 ≤ x5 then ((laws_szInt64S.f (rd_L1 x0 x5) x1).bind fun t102 => (if t102 < 0 then (some (-1)) else (laws_szInt64SS.l0d x0 t102 (wrap64 (x5 + 1))))) else (none)) else (some x1) := by
  refine IsLim.unique (laws_szInt64SS.l0lim _ _ _) ?_
  refine IsLim.shift (by rfl) ?_
  simp only [laws_szInt64SS.l0]
  repeat' (first | exact IsLim.const _ | refine IsLim.ite ?_ ?_ | refine IsLim.bind ?_ (fun _ => ?_) | exact laws_szInt64SS.l0lim ..)
noncomputable def laws_szInt64SS.d (l0 : List (List Int)) (a1 : Int) : Option (Int) := lim (fun k => laws_szInt64SS.f k l0 a1)
theorem laws_szInt64SS.lim (l0 : List (List Int)) (a1 : Int) : IsLim (fun k => laws_szInt64SS.f k l0 a1) (laws_szInt64SS.d l0 a1) := lim_spec (fun k => laws_szInt64SS.mono l0 a1 k)
theorem laws_szInt64SS.d_eq (l0 : List (List Int)) (a1 : Int) : laws_szInt64SS.d l0 a1 = if (wrap64 (a1 - (l0.length : Int))) < 0 then (some (-1)) else (laws_szInt64SS.l0d l0 (wrap64 (a1 - (l0.length : Int))) 0) := by
  refine IsLim.unique (laws_szInt64SS.lim _ _) ?_
  unfold laws_szInt64SS.f
  repeat' (first | exact IsLim.const _ | refine IsLim.ite ?_ ?_ | refine IsLim.bind ?_ (fun _ => ?_) | exact laws_szInt64SS.l0lim ..)
noncomputable def spec_l01Degree.l0d (x0 : Int) (x3 : Int) : Option (Int) := lim (fun k => spec_l01Degree.l0 k x0 x3)
theorem spec_l01Degree.l0lim (x0 : Int) (x3 : Int) : IsLim (fun k => spec_l01Degree.l0 k x0 x3) (spec_l01Degree.l0d x0 x3) := lim_spec (fun k => (spec_l01Degree.mono_l k) x0 x3)
theorem spec_l01Degree.l0d_eq (x0 : Int) (x3 : Int) : spec_l01Degree.l0d x0 x3 = if x0 > 0 then (spec_l01Degree.l0d (wrap64 (Int.tdiv x0 2)) (wrap64 (x3 + 1))) else (some x3) := by
  refine IsLim.unique (spec_l01Degree.l0lim _ _) ?_
  refine IsLim.shift (by rfl) ?_
  simp only [spec_l01Degree.l0]
  repeat' (first | exact IsLim.const _ | refine IsLim.ite ?_ ?_ | refine IsLim.bind ?_ (fun _ => ?_) | exact spec_l01Degree.l0lim ..)
noncomputable def spec_l01Degree.d (a0 : Int) : Option (Int) := lim (fun k => spec_l01Degree.f k a0)
theorem spec_l01Degree.lim (a0 : Int) : IsLim (fun k => spec_l01Degree.f k a0) (spec_l01Degree.d a0) := lim_spec (fun k => spec_l01Degree.mono a0 k)
theorem spec_l01Degree.d_eq (a0 : Int) : spec_l01Degree.d a0 = spec_l01Degree.l0d a0 (-1) := by
  refine IsLim.unique (spec_l01Degree.lim _) ?_
  unfold spec_l01Degree.f
  repeat' (first | exact IsLim.const _ | refine IsLim.ite ?_ ?_ | refine IsLim.bind ?_ (fun _ => ?_) | exact spec_l01Degree.l0lim ..)
noncomputable def spec_l01Rest.l0d (x0 : Int) (x1 : Int) (x5 : Int) : Option (Int) := lim (fun k => spec_l01Rest.l0 k x0 x1 x5)
theorem spec_l01Rest.l0lim (x0 : Int) (x1 : Int) (x5 : Int) : IsLim (fun k => spec_l01Rest.l0 k x0 x1 x5) (spec_l01Rest.l0d x0 x1 x5) := lim_spec (fun k => (spec_l01Rest.mono_l k) x0 x1 x5)
theorem spec_l01Rest.l0d_eq (x0 : Int) (x1 : Int) (x5 : Int) : spec_l01Rest.l0d x0 x1 x5 = (spec_l01Degree.d x0).bind fun t104 => (if t104 ≥ x5 then ((spec_l01Degree.d x0).bind fun t105 => (if 0 ≤ (IntKind.u64.wrap (wrap64 (t105 - x5))) then (spec_l01Rest.l0d (Go.bits .xor .i64 x0 (shl .i64 x1 (IntKind.u64.wrap (wrap64 (t105 - x5))))) x1 x5) else (none))) else (some x0)) := by
  refine IsLim.unique (spec_l01Rest.l0lim _ _ _) ?_
  refine IsLim.shift (by rfl) ?_
  simp only [spec_l01Rest.l0]
  repeat' (first | exact IsLim.const _ | refine IsLim.ite ?_ ?_ | refine IsLim.bind ?_ (fun _ => ?_) | exact spec_l01Degree.lim .. | exact spec_l01Rest.l0lim ..)
noncomputable def spec_l01Rest.d (a0 : Int) (a1 : Int) : Option (Int) := lim (fun k => spec_l01Rest.f k a0 a1)
theorem spec_l01Rest.lim (a0 : Int) (a1 : Int) : IsLim (fun k => spec_l01Rest.f k a0 a1) (spec_l01Rest.d a0 a1) := lim_spec (fun k => spec_l01Rest.mono a0 a1 k)
theorem spec_l01Rest.d_eq (a0 : Int) (a1 : Int) : spec_l01Rest.d a0 a1 = (spec_l01Degree.d a1).bind fun t103 => (spec_l01Rest.l0d a0 a1 t103) := by
  refine IsLim.unique (spec_l01Rest.lim _ _) ?_
  unfold spec_l01Rest.f
  repeat' (first | exact IsLim.const _ | refine IsLim.ite ?_ ?_ | refine IsLim.bind ?_ (fun _ => ?_) | exact spec_l01Degree.lim .. | exact spec_l01Rest.l0lim ..)
noncomputable def spec_l01Irreducible.d (a0 : Int) : Option (Bool) := lim (fun k => spec_l01Irreducible.f k a0)
theorem spec_l01Irreducible.lim (a0 : Int) : IsLim (fun k => spec_l01Irreducible.f k a0) (spec_l01Irreducible.d a0) := lim_spec (fun k => spec_l01Irreducible.mono a0 k)
noncomputable def spec_IsIrreducible.d (a0 : Int) : Option (Bool) := lim (fun k => spec_IsIrreducible.f k a0)
theorem spec_IsIrreducible.lim (a0 : Int) : IsLim (fun k => spec_IsIrreducible.f k a0) (spec_IsIrreducible.d a0) := lim_spec (fun k => spec_IsIrreducible.mono a0 k)
theorem spec_IsIrreducible.d_eq (a0 : Int) : spec_IsIrreducible.d a0 = if a0 > 0 then (if a0 < 64 then ((spec_l01Irreducible.d a0).bind fun t109 => (some t109)) else (some false)) else (some false) := by
  refine IsLim.unique (spec_IsIrreducible.lim _) ?_
  unfold spec_IsIrreducible.f
  repeat' (first | exact IsLim.const _ | refine IsLim.ite ?_ ?_ | refine IsLim.bind ?_ (fun _ => ?_) | exact spec_l01Irreducible.lim ..)
noncomputable def spec_l01Ok.d (a0_0 : Int) (a0_1 : Int) : Option (Bool) := lim (fun k => spec_l01Ok.f k a0_0 a0_1)
theorem spec_l01Ok.lim (a0_0 : Int) (a0_1 : Int) : IsLim (fun k => spec_l01Ok.f k a0_0 a0_1) (spec_l01Ok.d a0_0 a0_1) := lim_spec (fun k => spec_l01Ok.mono a0_0 a0_1 k)
theorem spec_l01Ok.d_eq (a0_0 : Int) (a0_1 : Int) : spec_l01Ok.d a0_0 a0_1 = (spec_l00In.f a0_0 1 5).bind fun t111 => (if t111 = true then ((spec_IsIrreducible.d a0_1).bind fun t112 => (if t112 = true then ((spec_l01Degree.d a0_1).bind fun t113 => (some (t113 == a0_0))) else (some false))) else (some false)) := by
  refine IsLim.unique (spec_l01Ok.lim _ _) ?_
  unfold spec_l01Ok.f
  repeat' (first | exact IsLim.const _ | refine IsLim.ite ?_ ?_ | refine IsLim.bind ?_ (fun _ => ?_) | exact spec_IsIrreducible.lim .. | exact spec_l01Degree.lim ..)
end Go.Proofs.Ytbalkaphibnpcaa.P
end
section
namespace Go.Proofs.Ytbalkaphibnpcaa.P
open Go.RowKit Go.Proofs.YtbalkaphibnpcaaW.PrintWords Go.Proofs.YtbalkaphibnpcaaW.PrintLast Go.Proofs.YtbalkaphibnpcaaW.PrintMore
set_option linter.unusedVariables false
set_option linter.unusedSimpArgs false
noncomputable def spec_l04Elements.l0d (x1 : List Int) (x5 : Int) (x116000 : Int) (x116001 : Int) : Option (Bool) := lim (fun k => spec_l04Elements.l0 k x1 x5 x116000 x116001)
theorem spec_l04Elements.l0lim (x1 : List Int) (x5 : Int) (x116000 : Int) (x116001 : Int) : IsLim (fun k => spec_l04Elements.l0 k x1 x5 x116000 x116001) (spec_l04Elements.l0d x1 x5 x116000 x116001) := lim_spec (fun k => (spec_l04Elements.mono_l k) x1 x5 x116000 x116001)
theorem spec_l04Elements.l0d_eq (x1 : List Int) (x5 : Int) (x116000 : Int) (x116001 : Int) : spec_l04Elements.l0d x1 x5 x116000 x116001 = if x5 < (x1.length : Int) then (if 0 ≤ x5 then ((spec_l01Size.f x116000 x116001).bind fun t117 => ((spec_l00In.f (rd x1 x5) 0 (wrap64 (t117 - 1))).bind fun t118 => (if t118 = true then (spec_l04Elements.l0d x1 (wrap64 (x5 + 1)) x116000 x116001) else (some false)))) else (none)) else (some true) := by
  refine IsLim.unique (spec_l04Elements.l0lim _ _ _ _) ?_
  refine IsLim.shift (by rfl) ?_
  simp only [spec_l04Elements.l0]
  repeat' (first | exact IsLim.const _ | refine IsLim.ite ?_ ?_ | refine IsLim.bind ?_ (fun _ => ?_) | exact spec_l04Elements.l0lim ..)
noncomputable def spec_l04Elements.d (a0_0 : Int) (a0_1 : Int) (l1 : List Int) : Option (Bool) := lim (fun k => spec_l04Elements.f k a0_0 a0_1 l1)
theorem spec_l04Elements.lim (a0_0 : Int) (a0_1 : Int) (l1 : List Int) : IsLim (fun k => spec_l04Elements.f k a0_0 a0_1 l1) (spec_l04Elements.d a0_0 a0_1 l1) := lim_spec (fun k => spec_l04Elements.mono a0_0 a0_1 l1 k)
theorem spec_l04Elements.d_eq (a0_0 : Int) (a0_1 : Int) (l1 : List Int) : spec_l04Elements.d a0_0 a0_1 l1 = spec_l04Elements.l0d l1 0 a0_0 a0_1 := by
  refine IsLim.unique (spec_l04Elements.lim _ _ _) ?_
  unfold spec_l04Elements.f
  repeat' (first | exact IsLim.const _ | refine IsLim.ite ?_ ?_ | refine IsLim.bind ?_ (fun _ => ?_) | exact spec_l04Elements.l0lim ..)
noncomputable def laws_toInt64SS.l0d (x0 : List (List Int)) (x3 : List (List Int)) (x4 : Int) : Option ((List (List Int))) := lim (fun k => laws_toInt64SS.l0 k x0 x3 x4)
theorem laws_toInt64SS.l0lim (x0 : List (List Int)) (x3 : List (List Int)) (x4 : Int) : IsLim (fun k => laws_toInt64SS.l0 k x0 x3 x4) (laws_toInt64SS.l0d x0 x3 x4) := lim_spec (fun k => (laws_toInt64SS.mono_l k) x0 x3 x4)
theorem laws_toInt64SS.l0d_eq (x0 : List (List Int)) (x3 : List (List Int)) (x4 : Int) : laws_toInt64SS.l0d x0 x3 x4 = if x4 < (x0.length : Int) then (if 0 ≤ x4 then ((laws_toInt64S.d (rd_L1 x0 x4)).bind fun t203 => (if x4 < (x3.length : Int) then (laws_toInt64SS.l0d x0 (x3.set (x4 : Int).toNat t203) (wrap64 (x4 + 1))) else (none))) else (none)) else (some x3) := by
  refine IsLim.unique (laws_toInt64SS.l0lim _ _ _) ?_
  refine IsLim.shift (by rfl) ?_
  simp only [laws_toInt64SS.l0]
  repeat' (first | exact IsLim.const _ | refine IsLim.ite ?_ ?_ | refine IsLim.bind ?_ (fun _ => ?_) | exact laws_toInt64S.lim .. | exact laws_toInt64SS.l0lim ..)
noncomputable def laws_toInt64SS.d (l0 : List (List Int)) : Option ((List (List Int))) := lim (fun k => laws_toInt64SS.f k l0)
theorem laws_toInt64SS.lim (l0 : List (List Int)) : IsLim (fun k => laws_toInt64SS.f k l0) (laws_toInt64SS.d l0) := lim_spec (fun k => laws_toInt64SS.mono l0 k)
theorem laws_toInt64SS.d_eq (l0 : List (List Int)) : laws_toInt64SS.d l0 = if 0 ≤ (l0.length : Int) then (if ((l0.length : Int) : Int).toNat ≤ 11728124029610 then (laws_toInt64SS.l0d l0 (List.replicate ((l0.length : Int) : Int).toNat []) 0) else (none)) else (none) := by
  refine IsLim.unique (laws_toInt64SS.lim _) ?_
  unfold laws_toInt64SS.f
  repeat' (first | exact IsLim.const _ | refine IsLim.ite ?_ ?_ | refine IsLim.bind ?_ (fun _ => ?_) | exact laws_toInt64SS.l0lim ..)
noncomputable def impl_degreeOf.l0d (x0 : Int) (x3 : Int) : Option (Int) := lim (fun k => impl_degreeOf.l0 k x0 x3)
theorem impl_degreeOf.l0lim (x0 : Int) (x3 : Int) : IsLim (fun k => impl_degreeOf.l0 k x0 x3) (impl_degreeOf.l0d x0 x3) := lim_spec (fun k => (impl_degreeOf.mono_l k) x0 x3)
theorem impl_degreeOf.l0d_eq (x0 : Int) (x3 : Int) : impl_degreeOf.l0d x0 x3 = if x0 > 0 then (impl_degreeOf.l0d (x0 / 2) (wrap64 (x3 + 1))) else (some x3) := by
  refine IsLim.unique (impl_degreeOf.l0lim _ _) ?_
  refine IsLim.shift (by rfl) ?_
  simp only [impl_degreeOf.l0]
  repeat' (first | exact IsLim.const _ | refine IsLim.ite ?_ ?_ | refine IsLim.bind ?_ (fun _ => ?_) | exact impl_degreeOf.l0lim ..)
noncomputable def impl_degreeOf.d (a0 : Int) : Option (Int) := lim (fun k => impl_degreeOf.f k a0)
theorem impl_degreeOf.lim (a0 : Int) : IsLim (fun k => impl_degreeOf.f k a0) (impl_degreeOf.d a0) := lim_spec (fun k => impl_degreeOf.mono a0 k)
theorem impl_degreeOf.d_eq (a0 : Int) : impl_degreeOf.d a0 = impl_degreeOf.l0d a0 (-1) := by
  refine IsLim.unique (impl_degreeOf.lim _) ?_
  unfold impl_degreeOf.f
  repeat' (first | exact IsLim.const _ | refine IsLim.ite ?_ ?_ | refine IsLim.bind ?_ (fun _ => ?_) | exact impl_degreeOf.l0lim ..)
noncomputable def impl_restOf.l0d (x0 : Int) (x1 : Int) (x5 : Int) : Option (Int) := lim (fun k => impl_restOf.l0 k x0 x1 x5)
theorem impl_restOf.l0lim (x0 : Int) (x1 : Int) (x5 : Int) : IsLim (fun k => impl_restOf.l0 k x0 x1 x5) (impl_restOf.l0d x0 x1 x5) := lim_spec (fun k => (impl_restOf.mono_l k) x0 x1 x5)
theorem impl_restOf.l0d_eq (x0 : Int) (x1 : Int) (x5 : Int) : impl_restOf.l0d x0 x1 x5 = (impl_degreeOf.d x0).bind fun t208 => (if t208 ≥ x5 then ((impl_degreeOf.d x0).bind fun t209 => (if 0 ≤ (wrap64 (t209 - x5)) then (impl_restOf.l0d (Go.bits .xor .i64 x0 (shl .i64 x1 (wrap64 (t209 - x5)))) x1 x5) else (none))) else (some x0)) := by
  refine IsLim.unique (impl_restOf.l0lim _ _ _) ?_
  refine IsLim.shift (by rfl) ?_
  simp only [impl_restOf.l0]
  repeat' (first | exact IsLim.const _ | refine IsLim.ite ?_ ?_ | refine IsLim.bind ?_ (fun _ => ?_) | exact impl_degreeOf.lim .. | exact impl_restOf.l0lim ..)
noncomputable def impl_restOf.d (a0 : Int) (a1 : Int) : Option (Int) := lim (fun k => impl_restOf.f k a0 a1)
theorem impl_restOf.lim (a0 : Int) (a1 : Int) : IsLim (fun k => impl_restOf.f k a0 a1) (impl_restOf.d a0 a1) := lim_spec (fun k => impl_restOf.mono a0 a1 k)
theorem impl_restOf.d_eq (a0 : Int) (a1 : Int) : impl_restOf.d a0 a1 = (impl_degreeOf.d a1).bind fun t207 => (impl_restOf.l0d a0 a1 t207) := by
  refine IsLim.unique (impl_restOf.lim _ _) ?_
  unfold impl_restOf.f
  repeat' (first | exact IsLim.const _ | refine IsLim.ite ?_ ?_ | refine IsLim.bind ?_ (fun _ => ?_) | exact impl_degreeOf.lim .. | exact impl_restOf.l0lim ..)
end Go.Proofs.Ytbalkaphibnpcaa.P
end
section
namespace Go.Proofs.Ytbalkaphibnpcaa.P
open Go.RowKit Go.Proofs.YtbalkaphibnpcaaW.PrintWords Go.Proofs.YtbalkaphibnpcaaW.PrintLast Go.Proofs.YtbalkaphibnpcaaW.PrintMore
set_option linter.unusedVariables false
set_option linter.unusedSimpArgs false
noncomputable def impl_IsIrreducible.j0d (x0 : Int) (x9 : Bool) : Option (Bool) := lim (fun k => impl_IsIrreducible.j0 k x0 x9)
theorem impl_IsIrreducible.j0lim (x0 : Int) (x9 : Bool) : IsLim (fun k => impl_IsIrreducible.j0 k x0 x9) (impl_IsIrreducible.j0d x0 x9) := lim_spec (fun k => (impl_IsIrreducible.mono_l k).1 x0 x9)
noncomputable def impl_IsIrreducible.l0d (x0 : Int) (x3 : Int) : Option (Bool) := lim (fun k => impl_IsIrreducible.l0 k x0 x3)
theorem impl_IsIrreducible.l0lim (x0 : Int) (x3 : Int) : IsLim (fun k => impl_IsIrreducible.l0 k x0 x3) (impl_IsIrreducible.l0d x0 x3) := lim_spec (fun k => (impl_IsIrreducible.mono_l k).2 x0 x3)
theorem impl_IsIrreducible.j0d_eq (x0 : Int) (x9 : Bool) : impl_IsIrreducible.j0d x0 x9 = if x9 = true then (some false) else (impl_IsIrreducible.l0d x0 2) := by
  refine IsLim.unique (impl_IsIrreducible.j0lim _ _) ?_
  refine IsLim.shift (by rfl) ?_
  simp only [impl_IsIrreducible.j0]
  repeat' (first | exact IsLim.const _ | refine IsLim.ite ?_ ?_ | refine IsLim.bind ?_ (fun _ => ?_) | exact impl_IsIrreducible.l0lim ..)
noncomputable def impl_IsIrreducible.d (a0 : Int) : Option (Bool) := lim (fun k => impl_IsIrreducible.f k a0)
theorem impl_IsIrreducible.lim (a0 : Int) : IsLim (fun k => impl_IsIrreducible.f k a0) (impl_IsIrreducible.d a0) := lim_spec (fun k => impl_IsIrreducible.mono a0 k)
theorem impl_IsIrreducible.d_eq (a0 : Int) : impl_IsIrreducible.d a0 = if a0 < 2 then (impl_IsIrreducible.j0d a0 true) else (impl_IsIrreducible.j0d a0 (decide (a0 ≥ 64))) := by
  refine IsLim.unique (impl_IsIrreducible.lim _) ?_
  unfold impl_IsIrreducible.f
  repeat' (first | exact IsLim.const _ | refine IsLim.ite ?_ ?_ | refine IsLim.bind ?_ (fun _ => ?_) | exact impl_IsIrreducible.j0lim ..)
noncomputable def impl_ValidField.d (a0_0 : Int) (a0_1 : Int) : Option (Bool) := lim (fun k => impl_ValidField.f k a0_0 a0_1)
theorem impl_ValidField.lim (a0_0 : Int) (a0_1 : Int) : IsLim (fun k => impl_ValidField.f k a0_0 a0_1) (impl_ValidField.d a0_0 a0_1) := lim_spec (fun k => impl_ValidField.mono a0_0 a0_1 k)
theorem impl_ValidField.d_eq (a0_0 : Int) (a0_1 : Int) : impl_ValidField.d a0_0 a0_1 = (impl_within.f a0_0 1 5).bind fun t214 => (if t214 = true then ((impl_IsIrreducible.d a0_1).bind fun t215 => (if t215 = true then ((impl_degreeOf.d a0_1).bind fun t216 => (some (t216 == a0_0))) else (some false))) else (some false)) := by
  refine IsLim.unique (impl_ValidField.lim _ _) ?_
  unfold impl_ValidField.f
  repeat' (first | exact IsLim.const _ | refine IsLim.ite ?_ ?_ | refine IsLim.bind ?_ (fun _ => ?_) | exact impl_IsIrreducible.lim .. | exact impl_degreeOf.lim ..)
noncomputable def slices_IndexFunc_int64_int64_AT_impl_Field_has_1.l0d (x0 : List Int) (x7 : Int) (x8 : Int) (x49000 : Int) (x49001 : Int) : Option (Int) := lim (fun k => slices_IndexFunc_int64_int64_AT_impl_Field_has_1.l0 k x0 x7 x8 x49000 x49001)
theorem slices_IndexFunc_int64_int64_AT_impl_Field_has_1.l0lim (x0 : List Int) (x7 : Int) (x8 : Int) (x49000 : Int) (x49001 : Int) : IsLim (fun k => slices_IndexFunc_int64_int64_AT_impl_Field_has_1.l0 k x0 x7 x8 x49000 x49001) (slices_IndexFunc_int64_int64_AT_impl_Field_has_1.l0d x0 x7 x8 x49000 x49001) := lim_spec (fun k => (slices_IndexFunc_int64_int64_AT_impl_Field_has_1.mono_l k) x0 x7 x8 x49000 x49001)
theorem slices_IndexFunc_int64_int64_AT_impl_Field_has_1.l0d_eq (x0 : List Int) (x7 : Int) (x8 : Int) (x49000 : Int) (x49001 : Int) : slices_IndexFunc_int64_int64_AT_impl_Field_has_1.l0d x0 x7 x8 x49000 x49001 = if x8 < x7 then (if 0 ≤ x8 then (if x8 < (x0.length : Int) then ((impl_Field_has_1.f (rd x0 x8) x49000 x49001).bind fun t221 => (if t221 = true then (some x8) else (slices_IndexFunc_int64_int64_AT_impl_Field_has_1.l0d x0 x7 (wrap64 (x8 + 1)) x49000 x49001))) else (none)) else (none)) else (some (-1)) := by
  refine IsLim.unique (slices_IndexFunc_int64_int64_AT_impl_Field_has_1.l0lim _ _ _ _ _) ?_
  refine IsLim.shift (by rfl) ?_
  simp only [slices_IndexFunc_int64_int64_AT_impl_Field_has_1.l0]
  repeat' (first | exact IsLim.const _ | refine IsLim.ite ?_ ?_ | refine IsLim.bind ?_ (fun _ => ?_) | exact slices_IndexFunc_int64_int64_AT_impl_Field_has_1.l0lim ..)
noncomputable def slices_IndexFunc_int64_int64_AT_impl_Field_has_1.d (l0 : List Int) (a1_0 : Int) (a1_1 : Int) : Option (Int) := lim (fun k => slices_IndexFunc_int64_int64_AT_impl_Field_has_1.f k l0 a1_0 a1_1)
theorem slices_IndexFunc_int64_int64_AT_impl_Field_has_1.lim (l0 : List Int) (a1_0 : Int) (a1_1 : Int) : IsLim (fun k => slices_IndexFunc_int64_int64_AT_impl_Field_has_1.f k l0 a1_0 a1_1) (slices_IndexFunc_int64_int64_AT_impl_Field_has_1.d l0 a1_0 a1_1) := lim_spec (fun k => slices_IndexFunc_int64_int64_AT_impl_Field_has_1.mono l0 a1_0 a1_1 k)
theorem slices_IndexFunc_int64_int64_AT_impl_Field_has_1.d_eq (l0 : List Int) (a1_0 : Int) (a1_1 : Int) : slices_IndexFunc_int64_int64_AT_impl_Field_has_1.d l0 a1_0 a1_1 = slices_IndexFunc_int64_int64_AT_impl_Field_has_1.l0d l0 (l0.length : Int) 0 a1_0 a1_1 := by
  refine IsLim.unique (slices_IndexFunc_int64_int64_AT_impl_Field_has_1.lim _ _ _) ?_
  unfold slices_IndexFunc_int64_int64_AT_impl_Field_has_1.f
  repeat' (first | exact IsLim.const _ | refine IsLim.ite ?_ ?_ | refine IsLim.bind ?_ (fun _ => ?_) | exact slices_IndexFunc_int64_int64_AT_impl_Field_has_1.l0lim ..)
noncomputable def slices_ContainsFunc_int64_int64_AT_impl_Field_has_1.d (l0 : List Int) (a1_0 : Int) (a1_1 : Int) : Option (Bool) := lim (fun k => slices_ContainsFunc_int64_int64_AT_impl_Field_has_1.f k l0 a1_0 a1_1)
theorem slices_ContainsFunc_int64_int64_AT_impl_Field_has_1.lim (l0 : List Int) (a1_0 : Int) (a1_1 : Int) : IsLim (fun k => slices_ContainsFunc_int64_int64_AT_impl_Field_has_1.f k l0 a1_0 a1_1) (slices_ContainsFunc_int64_int64_AT_impl_Field_has_1.d l0 a1_0 a1_1) := lim_spec (fun k => slices_ContainsFunc_int64_int64_AT_impl_Field_has_1.mono l0 a1_0 a1_1 k)
theorem slices_ContainsFunc_int64_int64_AT_impl_Field_has_1.d_eq (l0 : List Int) (a1_0 : Int) (a1_1 : Int) : slices_ContainsFunc_int64_int64_AT_impl_Field_has_1.d l0 a1_0 a1_1 = (slices_IndexFunc_int64_int64_AT_impl_Field_has_1.d l0 a1_0 a1_1).bind fun t222 => (some (decide (t222 ≥ 0))) := by
  refine IsLim.unique (slices_ContainsFunc_int64_int64_AT_impl_Field_has_1.lim _ _ _) ?_
  unfold slices_ContainsFunc_int64_int64_AT_impl_Field_has_1.f
  repeat' (first | exact IsLim.const _ | refine IsLim.ite ?_ ?_ | refine IsLim.bind ?_ (fun _ => ?_) | exact slices_IndexFunc_int64_int64_AT_impl_Field_has_1.lim ..)
noncomputable def impl_Field_has.d (a0_0 : Int) (a0_1 : Int) (l1 : List Int) : Option (Bool) := lim (fun k => impl_Field_has.f k a0_0 a0_1 l1)
theorem impl_Field_has.lim (a0_0 : Int) (a0_1 : Int) (l1 : List Int) : IsLim (fun k => impl_Field_has.f k a0_0 a0_1 l1) (impl_Field_has.d a0_0 a0_1 l1) := lim_spec (fun k => impl_Field_has.mono a0_0 a0_1 l1 k)
theorem impl_Field_has.d_eq (a0_0 : Int) (a0_1 : Int) (l1 : List Int) : impl_Field_has.d a0_0 a0_1 l1 = (slices_ContainsFunc_int64_int64_AT_impl_Field_has_1.d l1 a0_0 a0_1).bind fun t224 => (some (!t224)) := by
  refine IsLim.unique (impl_Field_has.lim _ _ _) ?_
  unfold impl_Field_has.f
  repeat' (first | exact IsLim.const _ | refine IsLim.ite ?_ ?_ | refine IsLim.bind ?_ (fun _ => ?_) | exact slices_ContainsFunc_int64_int64_AT_impl_Field_has_1.lim ..)
end Go.Proofs.Ytbalkaphibnpcaa.P
end
section
namespace Go.Proofs.Ytbalkaphibnpcaa.P
open Go.RowKit Go.Proofs.YtbalkaphibnpcaaW.PrintWords Go.Proofs.YtbalkaphibnpcaaW.PrintLast Go.Proofs.YtbalkaphibnpcaaW.PrintMore
set_option linter.unusedVariables false
set_option linter.unusedSimpArgs false
end Go.Proofs.Ytbalkaphibnpcaa.P
end
section
namespace Go.Proofs.Ytbalkaphibnpcaa.P
open Go.RowKit Go.Proofs.YtbalkaphibnpcaaW.PrintWords Go.Proofs.YtbalkaphibnpcaaW.PrintLast Go.Proofs.YtbalkaphibnpcaaW.PrintMore
set_option linter.unusedVariables false
set_option linter.unusedSimpArgs false
noncomputable def impl_Field_rowsCode_1.d (l0 : List Int) (a1_0 : Int) (a2_0 : Int) (a2_1 : Int) : Option (Bool) := lim (fun k => impl_Field_rowsCode_1.f k l0 a1_0 a2_0 a2_1)
theorem impl_Field_rowsCode_1.lim (l0 : List Int) (a1_0 : Int) (a2_0 : Int) (a2_1 : Int) : IsLim (fun k => impl_Field_rowsCode_1.f k l0 a1_0 a2_0 a2_1) (impl_Field_rowsCode_1.d l0 a1_0 a2_0 a2_1) := lim_spec (fun k => impl_Field_rowsCode_1.mono l0 a1_0 a2_0 a2_1 k)
theorem impl_Field_rowsCode_1.d_eq (l0 : List Int) (a1_0 : Int) (a2_0 : Int) (a2_1 : Int) : impl_Field_rowsCode_1.d l0 a1_0 a2_0 a2_1 = (impl_size_int64_71.f l0).bind fun t225 => (if t225 = a1_0 then ((impl_Field_has.d a2_0 a2_1 l0).bind fun t226 => (some (!t226))) else (some true)) := by
  refine IsLim.unique (impl_Field_rowsCode_1.lim _ _ _ _) ?_
  unfold impl_Field_rowsCode_1.f
  repeat' (first | exact IsLim.const _ | refine IsLim.ite ?_ ?_ | refine IsLim.bind ?_ (fun _ => ?_) | exact impl_Field_has.lim ..)
noncomputable def slices_IndexFunc_int64_int64_AT_impl_Field_rowsCode_1.l0d (x0 : List (List Int)) (x7 : Int) (x8 : Int) (x49000 : Int) (x50000 : Int) (x50001 : Int) : Option (Int) := lim (fun k => slices_IndexFunc_int64_int64_AT_impl_Field_rowsCode_1.l0 k x0 x7 x8 x49000 x50000 x50001)
theorem slices_IndexFunc_int64_int64_AT_impl_Field_rowsCode_1.l0lim (x0 : List (List Int)) (x7 : Int) (x8 : Int) (x49000 : Int) (x50000 : Int) (x50001 : Int) : IsLim (fun k => slices_IndexFunc_int64_int64_AT_impl_Field_rowsCode_1.l0 k x0 x7 x8 x49000 x50000 x50001) (slices_IndexFunc_int64_int64_AT_impl_Field_rowsCode_1.l0d x0 x7 x8 x49000 x50000 x50001) := lim_spec (fun k => (slices_IndexFunc_int64_int64_AT_impl_Field_rowsCode_1.mono_l k) x0 x7 x8 x49000 x50000 x50001)
theorem slices_IndexFunc_int64_int64_AT_impl_Field_rowsCode_1.l0d_eq (x0 : List (List Int)) (x7 : Int) (x8 : Int) (x49000 : Int) (x50000 : Int) (x50001 : Int) : slices_IndexFunc_int64_int64_AT_impl_Field_rowsCode_1.l0d x0 x7 x8 x49000 x50000 x50001 = if x8 < x7 then (if 0 ≤ x8 then (if x8 < (x0.length : Int) then ((impl_Field_rowsCode_1.d (rd_L1 x0 x8) x49000 x50000 x50001).bind fun t228 => (if t228 = true then (some x8) else (slices_IndexFunc_int64_int64_AT_impl_Field_rowsCode_1.l0d x0 x7 (wrap64 (x8 + 1)) x49000 x50000 x50001))) else (none)) else (none)) else (some (-1)) := by
  refine IsLim.unique (slices_IndexFunc_int64_int64_AT_impl_Field_rowsCode_1.l0lim _ _ _ _ _ _) ?_
  refine IsLim.shift (by rfl) ?_
  simp only [slices_IndexFunc_int64_int64_AT_impl_Field_rowsCode_1.l0]
  repeat' (first | exact IsLim.const _ | refine IsLim.ite ?_ ?_ | refine IsLim.bind ?_ (fun _ => ?_) | exact impl_Field_rowsCode_1.lim .. | exact slices_IndexFunc_int64_int64_AT_impl_Field_rowsCode_1.l0lim ..)
noncomputable def slices_IndexFunc_int64_int64_AT_impl_Field_rowsCode_1.d (l0 : List (List Int)) (a1_0 : Int) (a1_1 : Int) (a1_2 : Int) : Option (Int) := lim (fun k => slices_IndexFunc_int64_int64_AT_impl_Field_rowsCode_1.f k l0 a1_0 a1_1 a1_2)
theorem slices_IndexFunc_int64_int64_AT_impl_Field_rowsCode_1.lim (l0 : List (List Int)) (a1_0 : Int) (a1_1 : Int) (a1_2 : Int) : IsLim (fun k => slices_IndexFunc_int64_int64_AT_impl_Field_rowsCode_1.f k l0 a1_0 a1_1 a1_2) (slices_IndexFunc_int64_int64_AT_impl_Field_rowsCode_1.d l0 a1_0 a1_1 a1_2) := lim_spec (fun k => slices_IndexFunc_int64_int64_AT_impl_Field_rowsCode_1.mono l0 a1_0 a1_1 a1_2 k)
theorem slices_IndexFunc_int64_int64_AT_impl_Field_rowsCode_1.d_eq (l0 : List (List Int)) (a1_0 : Int) (a1_1 : Int) (a1_2 : Int) : slices_IndexFunc_int64_int64_AT_impl_Field_rowsCode_1.d l0 a1_0 a1_1 a1_2 = slices_IndexFunc_int64_int64_AT_impl_Field_rowsCode_1.l0d l0 (l0.length : Int) 0 a1_0 a1_1 a1_2 := by
  refine IsLim.unique (slices_IndexFunc_int64_int64_AT_impl_Field_rowsCode_1.lim _ _ _ _) ?_
  unfold slices_IndexFunc_int64_int64_AT_impl_Field_rowsCode_1.f
  repeat' (first | exact IsLim.const _ | refine IsLim.ite ?_ ?_ | refine IsLim.bind ?_ (fun _ => ?_) | exact slices_IndexFunc_int64_int64_AT_impl_Field_rowsCode_1.l0lim ..)
noncomputable def slices_ContainsFunc_int64_int64_AT_impl_Field_rowsCode_1.d (l0 : List (List Int)) (a1_0 : Int) (a1_1 : Int) (a1_2 : Int) : Option (Bool) := lim (fun k => slices_ContainsFunc_int64_int64_AT_impl_Field_rowsCode_1.f k l0 a1_0 a1_1 a1_2)
theorem slices_ContainsFunc_int64_int64_AT_impl_Field_rowsCode_1.lim (l0 : List (List Int)) (a1_0 : Int) (a1_1 : Int) (a1_2 : Int) : IsLim (fun k => slices_ContainsFunc_int64_int64_AT_impl_Field_rowsCode_1.f k l0 a1_0 a1_1 a1_2) (slices_ContainsFunc_int64_int64_AT_impl_Field_rowsCode_1.d l0 a1_0 a1_1 a1_2) := lim_spec (fun k => slices_ContainsFunc_int64_int64_AT_impl_Field_rowsCode_1.mono l0 a1_0 a1_1 a1_2 k)
theorem slices_ContainsFunc_int64_int64_AT_impl_Field_rowsCode_1.d_eq (l0 : List (List Int)) (a1_0 : Int) (a1_1 : Int) (a1_2 : Int) : slices_ContainsFunc_int64_int64_AT_impl_Field_rowsCode_1.d l0 a1_0 a1_1 a1_2 = (slices_IndexFunc_int64_int64_AT_impl_Field_rowsCode_1.d l0 a1_0 a1_1 a1_2).bind fun t229 => (some (decide (t229 ≥ 0))) := by
  refine IsLim.unique (slices_ContainsFunc_int64_int64_AT_impl_Field_rowsCode_1.lim _ _ _ _) ?_
  unfold slices_ContainsFunc_int64_int64_AT_impl_Field_rowsCode_1.f
  repeat' (first | exact IsLim.const _ | refine IsLim.ite ?_ ?_ | refine IsLim.bind ?_ (fun _ => ?_) | exact slices_IndexFunc_int64_int64_AT_impl_Field_rowsCode_1.lim ..)
end Go.Proofs.Ytbalkaphibnpcaa.P
end
section
namespace Go.Proofs.Ytbalkaphibnpcaa.P
open Go.RowKit Go.Proofs.YtbalkaphibnpcaaW.PrintWords Go.Proofs.YtbalkaphibnpcaaW.PrintLast Go.Proofs.YtbalkaphibnpcaaW.PrintMore
set_option linter.unusedVariables false
set_option linter.unusedSimpArgs false
noncomputable def impl_Field_rowsCode.d (a0_0 : Int) (a0_1 : Int) (a1 : Int) (l2 : List (List Int)) : Option (Int) := lim (fun k => impl_Field_rowsCode.f k a0_0 a0_1 a1 l2)
theorem impl_Field_rowsCode.lim (a0_0 : Int) (a0_1 : Int) (a1 : Int) (l2 : List (List Int)) : IsLim (fun k => impl_Field_rowsCode.f k a0_0 a0_1 a1 l2) (impl_Field_rowsCode.d a0_0 a0_1 a1 l2) := lim_spec (fun k => impl_Field_rowsCode.mono a0_0 a0_1 a1 l2 k)
theorem impl_Field_rowsCode.d_eq (a0_0 : Int) (a0_1 : Int) (a1 : Int) (l2 : List (List Int)) : impl_Field_rowsCode.d a0_0 a0_1 a1 l2 = (impl_ValidField.d a0_0 a0_1).bind fun t232 => (if t232 = true then ((impl_within.f a1 1 5).bind fun t233 => (if t233 = true then (if (l2.length : Int) > 10 then (some 2) else ((slices_ContainsFunc_int64_int64_AT_impl_Field_rowsCode_1.d l2 a1 a0_0 a0_1).bind fun t234 => (if t234 = true then (some 2) else (some 0)))) else (some 2))) else (some 1)) := by
  refine IsLim.unique (impl_Field_rowsCode.lim _ _ _ _) ?_
  unfold impl_Field_rowsCode.f
  repeat' (first | exact IsLim.const _ | refine IsLim.ite ?_ ?_ | refine IsLim.bind ?_ (fun _ => ?_) | exact impl_ValidField.lim .. | exact slices_ContainsFunc_int64_int64_AT_impl_Field_rowsCode_1.lim ..)
noncomputable def impl_product.l0d (x0 : Int) (x1 : Int) (x5 : Int) : Option (Int) := lim (fun k => impl_product.l0 k x0 x1 x5)
theorem impl_product.l0lim (x0 : Int) (x1 : Int) (x5 : Int) : IsLim (fun k => impl_product.l0 k x0 x1 x5) (impl_product.l0d x0 x1 x5) := lim_spec (fun k => (impl_product.mono_l k) x0 x1 x5)
theorem impl_product.l0d_eq (x0 : Int) (x1 : Int) (x5 : Int) : impl_product.l0d x0 x1 x5 = if x1 > 0 then (if (Go.bits .and .i64 x1 1) = 1 then (impl_product.l0d (wrap64 (x0 * 2)) (x1 / 2) (Go.bits .xor .i64 x5 x0)) else (impl_product.l0d (wrap64 (x0 * 2)) (x1 / 2) x5)) else (some x5) := by
  refine IsLim.unique (impl_product.l0lim _ _ _) ?_
  refine IsLim.shift (by rfl) ?_
  simp only [impl_product.l0]
  repeat' (first | exact IsLim.const _ | refine IsLim.ite ?_ ?_ | refine IsLim.bind ?_ (fun _ => ?_) | exact impl_product.l0lim ..)
noncomputable def impl_product.d (a0 : Int) (a1 : Int) : Option (Int) := lim (fun k => impl_product.f k a0 a1)
theorem impl_product.lim (a0 : Int) (a1 : Int) : IsLim (fun k => impl_product.f k a0 a1) (impl_product.d a0 a1) := lim_spec (fun k => impl_product.mono a0 a1 k)
theorem impl_product.d_eq (a0 : Int) (a1 : Int) : impl_product.d a0 a1 = impl_product.l0d a0 a1 0 := by
  refine IsLim.unique (impl_product.lim _ _) ?_
  unfold impl_product.f
  repeat' (first | exact IsLim.const _ | refine IsLim.ite ?_ ?_ | refine IsLim.bind ?_ (fun _ => ?_) | exact impl_product.l0lim ..)
noncomputable def impl_Field_mul.d (a0_0 : Int) (a0_1 : Int) (a1 : Int) (a2 : Int) : Option (Int) := lim (fun k => impl_Field_mul.f k a0_0 a0_1 a1 a2)
theorem impl_Field_mul.lim (a0_0 : Int) (a0_1 : Int) (a1 : Int) (a2 : Int) : IsLim (fun k => impl_Field_mul.f k a0_0 a0_1 a1 a2) (impl_Field_mul.d a0_0 a0_1 a1 a2) := lim_spec (fun k => impl_Field_mul.mono a0_0 a0_1 a1 a2 k)
theorem impl_Field_mul.d_eq (a0_0 : Int) (a0_1 : Int) (a1 : Int) (a2 : Int) : impl_Field_mul.d a0_0 a0_1 a1 a2 = (impl_product.d a1 a2).bind fun t236 => ((impl_restOf.d t236 a0_1).bind fun t237 => (some t237)) := by
  refine IsLim.unique (impl_Field_mul.lim _ _ _ _) ?_
  unfold impl_Field_mul.f
  repeat' (first | exact IsLim.const _ | refine IsLim.ite ?_ ?_ | refine IsLim.bind ?_ (fun _ => ?_) | exact impl_product.lim .. | exact impl_restOf.lim ..)
noncomputable def impl_Field_power.l0d (x1 : Int) (x2 : Int) (x7 : Int) (x239000 : Int) (x239001 : Int) : Option (Int) := lim (fun k => impl_Field_power.l0 k x1 x2 x7 x239000 x239001)
theorem impl_Field_power.l0lim (x1 : Int) (x2 : Int) (x7 : Int) (x239000 : Int) (x239001 : Int) : IsLim (fun k => impl_Field_power.l0 k x1 x2 x7 x239000 x239001) (impl_Field_power.l0d x1 x2 x7 x239000 x239001) := lim_spec (fun k => (impl_Field_power.mono_l k) x1 x2 x7 x239000 x239001)
theorem impl_Field_power.l0d_eq (x1 : Int) (x2 : Int) (x7 : Int) (x239000 : Int) (x239001 : Int) : impl_Field_power.l0d x1 x2 x7 x239000 x239001 = if x2 > 0 then (if (Go.bits .and .i64 x2 1) = 1 then ((impl_Field_mul.d x239000 x239001 x7 x1).bind fun t239 => ((impl_Field_mul.d x239000 x239001 x1 x1).bind fun t240 => (impl_Field_power.l0d t240 (x2 / 2) t239 x239000 x239001))) else ((impl_Field_mul.d x239000 x239001 x1 x1).bind fun t241 => (impl_Field_power.l0d t241 (x2 / 2) x7 x239000 x239001))) else (some x7) := by
  refine IsLim.unique (impl_Field_power.l0lim _ _ _ _ _) ?_
  refine IsLim.shift (by rfl) ?_
  simp only [impl_Field_power.l0]
  repeat' (first | exact IsLim.const _ | refine IsLim.ite ?_ ?_ | refine IsLim.bind ?_ (fun _ => ?_) | exact impl_Field_mul.lim .. | exact impl_Field_power.l0lim ..)
noncomputable def impl_Field_power.d (a0_0 : Int) (a0_1 : Int) (a1 : Int) (a2 : Int) : Option (Int) := lim (fun k => impl_Field_power.f k a0_0 a0_1 a1 a2)
theorem impl_Field_power.lim (a0_0 : Int) (a0_1 : Int) (a1 : Int) (a2 : Int) : IsLim (fun k => impl_Field_power.f k a0_0 a0_1 a1 a2) (impl_Field_power.d a0_0 a0_1 a1 a2) := lim_spec (fun k => impl_Field_power.mono a0_0 a0_1 a1 a2 k)
theorem impl_Field_power.d_eq (a0_0 : Int) (a0_1 : Int) (a1 : Int) (a2 : Int) : impl_Field_power.d a0_0 a0_1 a1 a2 = impl_Field_power.l0d a1 a2 1 a0_0 a0_1 := by
  refine IsLim.unique (impl_Field_power.lim _ _ _ _) ?_
  unfold impl_Field_power.f
  repeat' (first | exact IsLim.const _ | refine IsLim.ite ?_ ?_ | refine IsLim.bind ?_ (fun _ => ?_) | exact impl_Field_power.l0lim ..)
end Go.Proofs.Ytbalkaphibnpcaa.P
end
section
namespace Go.Proofs.Ytbalkaphibnpcaa.P
open Go.RowKit Go.Proofs.YtbalkaphibnpcaaW.PrintWords Go.Proofs.YtbalkaphibnpcaaW.PrintLast Go.Proofs.YtbalkaphibnpcaaW.PrintMore
set_option linter.unusedVariables false
set_option linter.unusedSimpArgs false
end Go.Proofs.Ytbalkaphibnpcaa.P
end
section
namespace Go.Proofs.Ytbalkaphibnpcaa.P
open Go.RowKit Go.Proofs.YtbalkaphibnpcaaW.PrintWords Go.Proofs.YtbalkaphibnpcaaW.PrintLast Go.Proofs.YtbalkaphibnpcaaW.PrintMore
set_option linter.unusedVariables false
set_option linter.unusedSimpArgs false
noncomputable def impl_Field_inverse.d (a0_0 : Int) (a0_1 : Int) (a1 : Int) : Option (Int) := lim (fun k => impl_Field_inverse.f k a0_0 a0_1 a1)
theorem impl_Field_inverse.lim (a0_0 : Int) (a0_1 : Int) (a1 : Int) : IsLim (fun k => impl_Field_inverse.f k a0_0 a0_1 a1) (impl_Field_inverse.d a0_0 a0_1 a1) := lim_spec (fun k => impl_Field_inverse.mono a0_0 a0_1 a1 k)
theorem impl_Field_inverse.d_eq (a0_0 : Int) (a0_1 : Int) (a1 : Int) : impl_Field_inverse.d a0_0 a0_1 a1 = (impl_Field_count.f a0_0 a0_1).bind fun t243 => ((impl_Field_power.d a0_0 a0_1 a1 (wrap64 (t243 - 2))).bind fun t244 => (some t244)) := by
  refine IsLim.unique (impl_Field_inverse.lim _ _ _) ?_
  unfold impl_Field_inverse.f
  repeat' (first | exact IsLim.const _ | refine IsLim.ite ?_ ?_ | refine IsLim.bind ?_ (fun _ => ?_) | exact impl_Field_power.lim ..)
noncomputable def slices_IndexFunc_int64_int64_AT_impl_Field_reduce_1.l0d (x0 : List (List Int)) (x7 : Int) (x8 : Int) (x49000 : Int) : Option (Int) := lim (fun k => slices_IndexFunc_int64_int64_AT_impl_Field_reduce_1.l0 k x0 x7 x8 x49000)
theorem slices_IndexFunc_int64_int64_AT_impl_Field_reduce_1.l0lim (x0 : List (List Int)) (x7 : Int) (x8 : Int) (x49000 : Int) : IsLim (fun k => slices_IndexFunc_int64_int64_AT_impl_Field_reduce_1.l0 k x0 x7 x8 x49000) (slices_IndexFunc_int64_int64_AT_impl_Field_reduce_1.l0d x0 x7 x8 x49000) := lim_spec (fun k => (slices_IndexFunc_int64_int64_AT_impl_Field_reduce_1.mono_l k) x0 x7 x8 x49000)
theorem slices_IndexFunc_int64_int64_AT_impl_Field_reduce_1.l0d_eq (x0 : List (List Int)) (x7 : Int) (x8 : Int) (x49000 : Int) : slices_IndexFunc_int64_int64_AT_impl_Field_reduce_1.l0d x0 x7 x8 x49000 = if x8 < x7 then (if 0 ≤ x8 then (if x8 < (x0.length : Int) then ((impl_Field_reduce_1.f (rd_L1 x0 x8) x49000).bind fun t247 => (if t247 = true then (some x8) else (slices_IndexFunc_int64_int64_AT_impl_Field_reduce_1.l0d x0 x7 (wrap64 (x8 + 1)) x49000))) else (none)) else (none)) else (some (-1)) := by
  refine IsLim.unique (slices_IndexFunc_int64_int64_AT_impl_Field_reduce_1.l0lim _ _ _ _) ?_
  refine IsLim.shift (by rfl) ?_
  simp only [slices_IndexFunc_int64_int64_AT_impl_Field_reduce_1.l0]
  repeat' (first | exact IsLim.const _ | refine IsLim.ite ?_ ?_ | refine IsLim.bind ?_ (fun _ => ?_) | exact slices_IndexFunc_int64_int64_AT_impl_Field_reduce_1.l0lim ..)
noncomputable def slices_IndexFunc_int64_int64_AT_impl_Field_reduce_1.d (l0 : List (List Int)) (a1_0 : Int) : Option (Int) := lim (fun k => slices_IndexFunc_int64_int64_AT_impl_Field_reduce_1.f k l0 a1_0)
theorem slices_IndexFunc_int64_int64_AT_impl_Field_reduce_1.lim (l0 : List (List Int)) (a1_0 : Int) : IsLim (fun k => slices_IndexFunc_int64_int64_AT_impl_Field_reduce_1.f k l0 a1_0) (slices_IndexFunc_int64_int64_AT_impl_Field_reduce_1.d l0 a1_0) := lim_spec (fun k => slices_IndexFunc_int64_int64_AT_impl_Field_reduce_1.mono l0 a1_0 k)
theorem slices_IndexFunc_int64_int64_AT_impl_Field_reduce_1.d_eq (l0 : List (List Int)) (a1_0 : Int) : slices_IndexFunc_int64_int64_AT_impl_Field_reduce_1.d l0 a1_0 = slices_IndexFunc_int64_int64_AT_impl_Field_reduce_1.l0d l0 (l0.length : Int) 0 a1_0 := by
  refine IsLim.unique (slices_IndexFunc_int64_int64_AT_impl_Field_reduce_1.lim _ _) ?_
  unfold slices_IndexFunc_int64_int64_AT_impl_Field_reduce_1.f
  repeat' (first | exact IsLim.const _ | refine IsLim.ite ?_ ?_ | refine IsLim.bind ?_ (fun _ => ?_) | exact slices_IndexFunc_int64_int64_AT_impl_Field_reduce_1.l0lim ..)
end Go.Proofs.Ytbalkaphibnpcaa.P
end
section
namespace Go.Proofs.Ytbalkaphibnpcaa.P
open Go.RowKit Go.Proofs.YtbalkaphibnpcaaW.PrintWords Go.Proofs.YtbalkaphibnpcaaW.PrintLast Go.Proofs.YtbalkaphibnpcaaW.PrintMore
set_option linter.unusedVariables false
set_option linter.unusedSimpArgs false
noncomputable def impl_Field_reduce.l0d (x1 : Int) (x7 : List (List Int)) (x8 : Int) (x21 : List (List Int)) (x22 : Int) (x23 : Int) (x249000 : Int) (x249001 : Int) : Option ((List (List Int))) := lim (fun k => impl_Field_reduce.l0 k x1 x7 x8 x21 x22 x23 x249000 x249001)
theorem impl_Field_reduce.l0lim (x1 : Int) (x7 : List (List Int)) (x8 : Int) (x21 : List (List Int)) (x22 : Int) (x23 : Int) (x249000 : Int) (x249001 : Int) : IsLim (fun k => impl_Field_reduce.l0 k x1 x7 x8 x21 x22 x23 x249000 x249001) (impl_Field_reduce.l0d x1 x7 x8 x21 x22 x23 x249000 x249001) := lim_spec (fun k => (impl_Field_reduce.mono_l k).1 x1 x7 x8 x21 x22 x23 x249000 x249001)
noncomputable def impl_Field_reduce.l1d (x7 : List (List Int)) (x8 : Int) (x33 : Int) (x34 : Int) (x249000 : Int) (x249001 : Int) : Option ((List (List Int))) := lim (fun k => impl_Field_reduce.l1 k x7 x8 x33 x34 x249000 x249001)
theorem impl_Field_reduce.l1lim (x7 : List (List Int)) (x8 : Int) (x33 : Int) (x34 : Int) (x249000 : Int) (x249001 : Int) : IsLim (fun k => impl_Field_reduce.l1 k x7 x8 x33 x34 x249000 x249001) (impl_Field_reduce.l1d x7 x8 x33 x34 x249000 x249001) := lim_spec (fun k => (impl_Field_reduce.mono_l k).2.1 x7 x8 x33 x34 x249000 x249001)
noncomputable def impl_Field_reduce.l2d (x7 : List (List Int)) (x8 : Int) (x13 : List Int) (x14 : Int) (x33 : Int) (x34 : Int) (x76 : Int) (x77 : Int) (x249000 : Int) (x249001 : Int) : Option ((List (List Int))) := lim (fun k => impl_Field_reduce.l2 k x7 x8 x13 x14 x33 x34 x76 x77 x249000 x249001)
theorem impl_Field_reduce.l2lim (x7 : List (List Int)) (x8 : Int) (x13 : List Int) (x14 : Int) (x33 : Int) (x34 : Int) (x76 : Int) (x77 : Int) (x249000 : Int) (x249001 : Int) : IsLim (fun k => impl_Field_reduce.l2 k x7 x8 x13 x14 x33 x34 x76 x77 x249000 x249001) (impl_Field_reduce.l2d x7 x8 x13 x14 x33 x34 x76 x77 x249000 x249001) := lim_spec (fun k => (impl_Field_reduce.mono_l k).2.2.1 x7 x8 x13 x14 x33 x34 x76 x77 x249000 x249001)
noncomputable def impl_Field_reduce.l3d (x7 : List (List Int)) (x8 : Int) (x33 : Int) (x34 : Int) (x92 : Int) (x93 : Int) (x249000 : Int) (x249001 : Int) : Option ((List (List Int))) := lim (fun k => impl_Field_reduce.l3 k x7 x8 x33 x34 x92 x93 x249000 x249001)
theorem impl_Field_reduce.l3lim (x7 : List (List Int)) (x8 : Int) (x33 : Int) (x34 : Int) (x92 : Int) (x93 : Int) (x249000 : Int) (x249001 : Int) : IsLim (fun k => impl_Field_reduce.l3 k x7 x8 x33 x34 x92 x93 x249000 x249001) (impl_Field_reduce.l3d x7 x8 x33 x34 x92 x93 x249000 x249001) := lim_spec (fun k => (impl_Field_reduce.mono_l k).2.2.2.1 x7 x8 x33 x34 x92 x93 x249000 x249001)
noncomputable def impl_Field_reduce.j4d (x7 : List (List Int)) (x8 : Int) (x33 : Int) (x34 : Int) (x92 : Int) (x93 : Int) (x108 : Bool) (x249000 : Int) (x249001 : Int) : Option ((List (List Int))) := lim (fun k => impl_Field_reduce.j4 k x7 x8 x33 x34 x92 x93 x108 x249000 x249001)
theorem impl_Field_reduce.j4lim (x7 : List (List Int)) (x8 : Int) (x33 : Int) (x34 : Int) (x92 : Int) (x93 : Int) (x108 : Bool) (x249000 : Int) (x249001 : Int) : IsLim (fun k => impl_Field_reduce.j4 k x7 x8 x33 x34 x92 x93 x108 x249000 x249001) (impl_Field_reduce.j4d x7 x8 x33 x34 x92 x93 x108 x249000 x249001) := lim_spec (fun k => (impl_Field_reduce.mono_l k).2.2.2.2.1 x7 x8 x33 x34 x92 x93 x108 x249000 x249001)
noncomputable def impl_Field_reduce.l4d (x7 : List (List Int)) (x8 : Int) (x13 : List Int) (x17 : List Int) (x18 : Int) (x33 : Int) (x34 : Int) (x92 : Int) (x93 : Int) (x110 : Int) (x111 : Int) (x249000 : Int) (x249001 : Int) : Option ((List (List Int))) := lim (fun k => impl_Field_reduce.l4 k x7 x8 x13 x17 x18 x33 x34 x92 x93 x110 x111 x249000 x249001)
theorem impl_Field_reduce.l4lim (x7 : List (List Int)) (x8 : Int) (x13 : List Int) (x17 : List Int) (x18 : Int) (x33 : Int) (x34 : Int) (x92 : Int) (x93 : Int) (x110 : Int) (x111 : Int) (x249000 : Int) (x249001 : Int) : IsLim (fun k => impl_Field_reduce.l4 k x7 x8 x13 x17 x18 x33 x34 x92 x93 x110 x111 x249000 x249001) (impl_Field_reduce.l4d x7 x8 x13 x17 x18 x33 x34 x92 x93 x110 x111 x249000 x249001) := lim_spec (fun k => (impl_Field_reduce.mono_l k).2.2.2.2.2 x7 x8 x13 x17 x18 x33 x34 x92 x93 x110 x111 x249000 x249001)
theorem impl_Field_reduce.l0d_eq (x1 : Int) (x7 : List (List Int)) (x8 : Int) (x21 : List (List Int)) (x22 : Int) (x23 : Int) (x249000 : Int) (x249001 : Int) : impl_Field_reduce.l0d x1 x7 x8 x21 x22 x23 x249000 x249001 = if x23 < x22 then (if 0 ≤ x23 then (if x23 < (x21.length : Int) then ((slices_Clone_int64_int64.f (rd_L1 x21 x23)).bind fun t253 => (if x7.length < 5864062014805 then (impl_Field_reduce.l0d x1 (x7 ++ [t253]) x8 x21 x22 (wrap64 (x23 + 1)) x249000 x249001) else (none))) else (none)) else (none)) else (impl_Field_reduce.l1d x7 x8 x1 0 x249000 x249001) := by
  refine IsLim.unique (impl_Field_reduce.l0lim _ _ _ _ _ _ _ _) ?_
  refine IsLim.shift (by rfl) ?_
  simp only [impl_Field_reduce.l0]
  repeat' (first | exact IsLim.const _ | refine IsLim.ite ?_ ?_ | refine IsLim.bind ?_ (fun _ => ?_) | exact impl_Field_reduce.l0lim .. | exact impl_Field_reduce.l1lim ..)
theorem impl_Field_reduce.l1d_eq (x7 : List (List Int)) (x8 : Int) (x33 : Int) (x34 : Int) (x249000 : Int) (x249001 : Int) : impl_Field_reduce.l1d x7 x8 x33 x34 x249000 x249001 = if x34 < x33 then (if 0 ≤ x8 then (if x8 ≤ (x7.length : Int) then ((slices_IndexFunc_int64_int64_AT_impl_Field_reduce_1.d (x7.drop (x8 : Int).toNat) x34).bind fun t267 => (if t267 < 0 then (impl_Field_reduce.l1d x7 x8 x33 (wrap64 (x34 + 1)) x249000 x249001) else (if x8 < (x7.length : Int) then (if 0 ≤ (wrap64 (x8 + t267)) then (if (wrap64 (x8 + t267)) < (x7.length : Int) then (if 0 ≤ x34 then (if x34 < ((rd_L1 (swpR x7 x8 (wrap64 (x8 + t267))) x8).length : Int) then ((impl_Field_inverse.d x249000 x249001 (rd (rd_L1 (swpR x7 x8 (wrap64 (x8 + t267))) x8) x34)).bind fun t271 => (impl_Field_reduce.l2d (swpR x7 x8 (wrap64 (x8 + t267))) x8 (rd_L1 (swpR x7 x8 (wrap64 (x8 + t267))) x8) t271 x33 x34 ((rd_L1 (swpR x7 x8 (wrap64 (x8 + t267))) x8).length : Int) 0 x249000 x249001)) else (none)) else (none)) else (none)) else (none)) else (none)))) else (none)) else (none)) else (if 0 ≤ x8 then (if x8 ≤ (x7.length : Int) then (some (x7.take (x8 : Int).toNat)) else (none)) else (none)) := by
  refine IsLim.unique (impl_Field_reduce.l1lim _ _ _ _ _ _) ?_
  refine IsLim.shift (by rfl) ?_
  simp only [impl_Field_reduce.l1]
  repeat' (first | exact IsLim.const _ | refine IsLim.ite ?_ ?_ | refine IsLim.bind ?_ (fun _ => ?_) | exact slices_IndexFunc_int64_int64_AT_impl_Field_reduce_1.lim .. | exact impl_Field_inverse.lim .. | exact impl_Field_reduce.l1lim .. | exact impl_Field_reduce.l2lim ..)
theorem impl_Field_reduce.l2d_eq (x7 : List (List Int)) (x8 : Int) (x13 : List Int) (x14 : Int) (x33 : Int) (x34 : Int) (x76 : Int) (x77 : Int) (x249000 : Int) (x249001 : Int) : impl_Field_reduce.l2d x7 x8 x13 x14 x33 x34 x76 x77 x249000 x249001 = if x77 < x76 then (if 0 ≤ x77 then (if x77 < (x13.length : Int) then ((impl_Field_mul.d x249000 x249001 (rd x13 x77) x14).bind fun t257 => (impl_Field_reduce.l2d x7 x8 (x13.set (x77 : Int).toNat t257) x14 x33 x34 x76 (wrap64 (x77 + 1)) x249000 x249001)) else (none)) else (none)) else (impl_Field_reduce.l3d (x7.set (x8 : Int).toNat x13) x8 x33 x34 (x7.length : Int) 0 x249000 x249001) := by
  refine IsLim.unique (impl_Field_reduce.l2lim _ _ _ _ _ _ _ _ _ _) ?_
  refine IsLim.shift (by rfl) ?_
  simp only [impl_Field_reduce.l2]
  repeat' (first | exact IsLim.const _ | refine IsLim.ite ?_ ?_ | refine IsLim.bind ?_ (fun _ => ?_) | exact impl_Field_mul.lim .. | exact impl_Field_reduce.l2lim .. | exact impl_Field_reduce.l3lim ..)
theorem impl_Field_reduce.l3d_eq (x7 : List (List Int)) (x8 : Int) (x33 : Int) (x34 : Int) (x92 : Int) (x93 : Int) (x249000 : Int) (x249001 : Int) : impl_Field_reduce.l3d x7 x8 x33 x34 x92 x93 x249000 x249001 = if x93 < x92 then (if 0 ≤ x93 then (if x93 < (x7.length : Int) then (if 0 ≤ x34 then (if x34 < ((rd_L1 x7 x93).length : Int) then (if x93 = x8 then (impl_Field_reduce.j4d x7 x8 x33 x34 x92 x93 false x249000 x249001) else (impl_Field_reduce.j4d x7 x8 x33 x34 x92 x93 ((rd (rd_L1 x7 x93) x34) != 0) x249000 x249001)) else (none)) else (none)) else (none)) else (none)) else (impl_Field_reduce.l1d x7 (wrap64 (x8 + 1)) x33 (wrap64 (x34 + 1)) x249000 x249001) := by
  refine IsLim.unique (impl_Field_reduce.l3lim _ _ _ _ _ _ _ _) ?_
  refine IsLim.shift (by rfl) ?_
  simp only [impl_Field_reduce.l3]
  repeat' (first | exact IsLim.const _ | refine IsLim.ite ?_ ?_ | refine IsLim.bind ?_ (fun _ => ?_) | exact impl_Field_reduce.j4lim .. | exact impl_Field_reduce.l1lim ..)
theorem impl_Field_reduce.j4d_eq (x7 : List (List Int)) (x8 : Int) (x33 : Int) (x34 : Int) (x92 : Int) (x93 : Int) (x108 : Bool) (x249000 : Int) (x249001 : Int) : impl_Field_reduce.j4d x7 x8 x33 x34 x92 x93 x108 x249000 x249001 = if x108 = true then (if 0 ≤ x8 then (if x8 < (x7.length : Int) then (impl_Field_reduce.l4d x7 x8 (rd_L1 x7 x8) (rd_L1 x7 x93) (rd (rd_L1 x7 x93) x34) x33 x34 x92 x93 ((rd_L1 x7 x93).length : Int) 0 x249000 x249001) else (none)) else (none)) else (impl_Field_reduce.l3d x7 x8 x33 x34 x92 (wrap64 (x93 + 1)) x249000 x249001) := by
  refine IsLim.unique (impl_Field_reduce.j4lim _ _ _ _ _ _ _ _ _) ?_
  refine IsLim.shift (by rfl) ?_
  simp only [impl_Field_reduce.j4]
  repeat' (first | exact IsLim.const _ | refine IsLim.ite ?_ ?_ | refine IsLim.bind ?_ (fun _ => ?_) | exact impl_Field_reduce.l4lim .. | exact impl_Field_reduce.l3lim ..)
theorem impl_Field_reduce.l4d_eq (x7 : List (List Int)) (x8 : Int) (x13 : List Int) (x17 : List Int) (x18 : Int) (x33 : Int) (x34 : Int) (x92 : Int) (x93 : Int) (x110 : Int) (x111 : Int) (x249000 : Int) (x249001 : Int) : impl_Field_reduce.l4d x7 x8 x13 x17 x18 x33 x34 x92 x93 x110 x111 x249000 x249001 = if x111 < x110 then (if 0 ≤ x111 then (if x111 < (x17.length : Int) then (if x111 < (x13.length : Int) then ((impl_Field_mul.d x249000 x249001 x18 (rd x13 x111)).bind fun t262 => (impl_Field_reduce.l4d x7 x8 x13 (x17.set (x111 : Int).toNat (Go.bits .xor .i64 (rd x17 x111) t262)) x18 x33 x34 x92 x93 x110 (wrap64 (x111 + 1)) x249000 x249001)) else (none)) else (none)) else (none)) else (impl_Field_reduce.l3d (x7.set (x93 : Int).toNat x17) x8 x33 x34 x92 (wrap64 (x93 + 1)) x249000 x249001) := by
  refine IsLim.unique (impl_Field_reduce.l4lim _ _ _ _ _ _ _ _ _ _ _ _ _) ?_
  refine IsLim.shift (by rfl) ?_
  simp only [impl_Field_reduce.l4]
  repeat' (first | exact IsLim.const _ | refine IsLim.ite ?_ ?_ | refine IsLim.bind ?_ (fun _ => ?_) | exact impl_Field_mul.lim .. | exact impl_Field_reduce.l4lim .. | exact impl_Field_reduce.l3lim ..)
noncomputable def impl_Field_reduce.d (a0_0 : Int) (a0_1 : Int) (a1 : Int) (l2 : List (List Int)) : Option ((List (List Int))) := lim (fun k => impl_Field_reduce.f k a0_0 a0_1 a1 l2)
theorem impl_Field_reduce.lim (a0_0 : Int) (a0_1 : Int) (a1 : Int) (l2 : List (List Int)) : IsLim (fun k => impl_Field_reduce.f k a0_0 a0_1 a1 l2) (impl_Field_reduce.d a0_0 a0_1 a1 l2) := lim_spec (fun k => impl_Field_reduce.mono a0_0 a0_1 a1 l2 k)
theorem impl_Field_reduce.d_eq (a0_0 : Int) (a0_1 : Int) (a1 : Int) (l2 : List (List Int)) : impl_Field_reduce.d a0_0 a0_1 a1 l2 = impl_Field_reduce.l0d a1 (([] : List (List Int))) 0 l2 (l2.length : Int) 0 a0_0 a0_1 := by
  refine IsLim.unique (impl_Field_reduce.lim _ _ _ _) ?_
  unfold impl_Field_reduce.f
  repeat' (first | exact IsLim.const _ | refine IsLim.ite ?_ ?_ | refine IsLim.bind ?_ (fun _ => ?_) | exact impl_Field_reduce.l0lim ..)
end Go.Proofs.Ytbalkaphibnpcaa.P
end
section
namespace Go.Proofs.Ytbalkaphibnpcaa.P
open Go.RowKit Go.Proofs.YtbalkaphibnpcaaW.PrintWords Go.Proofs.YtbalkaphibnpcaaW.PrintLast Go.Proofs.YtbalkaphibnpcaaW.PrintMore
set_option linter.unusedVariables false
set_option linter.unusedSimpArgs false
noncomputable def impl_FieldEchelon.d (a0_0 : Int) (a0_1 : Int) (a1 : Int) (l2 : List (List Int)) : Option ((List (List Int)) × Int) := lim (fun k => impl_FieldEchelon.f k a0_0 a0_1 a1 l2)
theorem impl_FieldEchelon.lim (a0_0 : Int) (a0_1 : Int) (a1 : Int) (l2 : List (List Int)) : IsLim (fun k => impl_FieldEchelon.f k a0_0 a0_1 a1 l2) (impl_FieldEchelon.d a0_0 a0_1 a1 l2) := lim_spec (fun k => impl_FieldEchelon.mono a0_0 a0_1 a1 l2 k)
theorem impl_FieldEchelon.d_eq (a0_0 : Int) (a0_1 : Int) (a1 : Int) (l2 : List (List Int)) : impl_FieldEchelon.d a0_0 a0_1 a1 l2 = (impl_Field_rowsCode.d a0_0 a0_1 a1 l2).bind fun t273 => (if t273 = 0 then ((impl_Field_reduce.d a0_0 a0_1 a1 l2).bind fun t274 => (some (t274, 0))) else (some (([] : List (List Int)), t273))) := by
  refine IsLim.unique (impl_FieldEchelon.lim _ _ _ _) ?_
  unfold impl_FieldEchelon.f
  repeat' (first | exact IsLim.const _ | refine IsLim.ite ?_ ?_ | refine IsLim.bind ?_ (fun _ => ?_) | exact impl_Field_rowsCode.lim .. | exact impl_Field_reduce.lim ..)
end Go.Proofs.Ytbalkaphibnpcaa.P
end
section
namespace Go.Proofs.Ytbalkaphibnpcaa.P
open Go.RowKit Go.Proofs.YtbalkaphibnpcaaW.PrintWords Go.Proofs.YtbalkaphibnpcaaW.PrintLast Go.Proofs.YtbalkaphibnpcaaW.PrintMore
set_option linter.unusedVariables false
set_option linter.unusedSimpArgs false
noncomputable def laws_markInt64S.l0d (x0 : List Int) (x1 : Int) (x5 : Int) : Option (Int × List Int) := lim (fun k => laws_markInt64S.l0 k x0 x1 x5)
theorem laws_markInt64S.l0lim (x0 : List Int) (x1 : Int) (x5 : Int) : IsLim (fun k => laws_markInt64S.l0 k x0 x1 x5) (laws_markInt64S.l0d x0 x1 x5) := lim_spec (fun k => (laws_markInt64S.mono_l k) x0 x1 x5)
theorem laws_markInt64S.l0d_eq (x0 : List Int) (x1 : Int) (x5 : Int) : laws_markInt64S.l0d x0 x1 x5 = if x5 < (x0.length : Int) then (if 0 ≤ x5 then (laws_markInt64S.l0d (x0.set (x5 : Int).toNat x1) (wrap64 (x1 + 1)) (wrap64 (x5 + 1))) else (none)) else (some (x1, x0)) := by
  refine IsLim.unique (laws_markInt64S.l0lim _ _ _) ?_
  refine IsLim.shift (by rfl) ?_
  simp only [laws_markInt64S.l0]
  repeat' (first | exact IsLim.const _ | refine IsLim.ite ?_ ?_ | refine IsLim.bind ?_ (fun _ => ?_) | exact laws_markInt64S.l0lim ..)
noncomputable def laws_markInt64S.d (l0 : List Int) (a1 : Int) : Option (Int × List Int) := lim (fun k => laws_markInt64S.f k l0 a1)
theorem laws_markInt64S.lim (l0 : List Int) (a1 : Int) : IsLim (fun k => laws_markInt64S.f k l0 a1) (laws_markInt64S.d l0 a1) := lim_spec (fun k => laws_markInt64S.mono l0 a1 k)
theorem laws_markInt64S.d_eq (l0 : List Int) (a1 : Int) : laws_markInt64S.d l0 a1 = laws_markInt64S.l0d l0 a1 0 := by
  refine IsLim.unique (laws_markInt64S.lim _ _) ?_
  unfold laws_markInt64S.f
  repeat' (first | exact IsLim.const _ | refine IsLim.ite ?_ ?_ | refine IsLim.bind ?_ (fun _ => ?_) | exact laws_markInt64S.l0lim ..)
noncomputable def laws_heldInt64S.l0d (x0 : List Int) (x1 : Int) (x5 : Int) : Option (Int) := lim (fun k => laws_heldInt64S.l0 k x0 x1 x5)
theorem laws_heldInt64S.l0lim (x0 : List Int) (x1 : Int) (x5 : Int) : IsLim (fun k => laws_heldInt64S.l0 k x0 x1 x5) (laws_heldInt64S.l0d x0 x1 x5) := lim_spec (fun k => (laws_heldInt64S.mono_l k) x0 x1 x5)
theorem laws_heldInt64S.l0d_eq (x0 : List Int) (x1 : Int) (x5 : Int) : laws_heldInt64S.l0d x0 x1 x5 = if x5 < (x0.length : Int) then (if 0 ≤ x5 then (if (rd x0 x5) = x1 then (laws_heldInt64S.l0d x0 (wrap64 (x1 + 1)) (wrap64 (x5 + 1))) else (some (-1))) else (none)) else (some x1) := by
  refine IsLim.unique (laws_heldInt64S.l0lim _ _ _) ?_
  refine IsLim.shift (by rfl) ?_
  simp only [laws_heldInt64S.l0]
  repeat' (first | exact IsLim.const _ | refine IsLim.ite ?_ ?_ | refine IsLim.bind ?_ (fun _ => ?_) | exact laws_heldInt64S.l0lim ..)
noncomputable def laws_heldInt64S.d (l0 : List Int) (a1 : Int) : Option (Int) := lim (fun k => laws_heldInt64S.f k l0 a1)
theorem laws_heldInt64S.lim (l0 : List Int) (a1 : Int) : IsLim (fun k => laws_heldInt64S.f k l0 a1) (laws_heldInt64S.d l0 a1) := lim_spec (fun k => laws_heldInt64S.mono l0 a1 k)
theorem laws_heldInt64S.d_eq (l0 : List Int) (a1 : Int) : laws_heldInt64S.d l0 a1 = laws_heldInt64S.l0d l0 a1 0 := by
  refine IsLim.unique (laws_heldInt64S.lim _ _) ?_
  unfold laws_heldInt64S.f
  repeat' (first | exact IsLim.const _ | refine IsLim.ite ?_ ?_ | refine IsLim.bind ?_ (fun _ => ?_) | exact laws_heldInt64S.l0lim ..)
end Go.Proofs.Ytbalkaphibnpcaa.P
end
section
namespace Go.Proofs.Ytbalkaphibnpcaa.P
open Go.RowKit Go.Proofs.YtbalkaphibnpcaaW.PrintWords Go.Proofs.YtbalkaphibnpcaaW.PrintLast Go.Proofs.YtbalkaphibnpcaaW.PrintMore
set_option linter.unusedVariables false
set_option linter.unusedSimpArgs false
noncomputable def spec_l04Rows.j0d (x1 : Int) (x2 : List (List Int)) (x18 : Bool) (x120000 : Int) (x120001 : Int) : Option (Int) := lim (fun k => spec_l04Rows.j0 k x1 x2 x18 x120000 x120001)
theorem spec_l04Rows.j0lim (x1 : Int) (x2 : List (List Int)) (x18 : Bool) (x120000 : Int) (x120001 : Int) : IsLim (fun k => spec_l04Rows.j0 k x1 x2 x18 x120000 x120001) (spec_l04Rows.j0d x1 x2 x18 x120000 x120001) := lim_spec (fun k => (spec_l04Rows.mono_l k).1 x1 x2 x18 x120000 x120001)
noncomputable def spec_l04Rows.l0d (x1 : Int) (x2 : List (List Int)) (x7 : Int) (x120000 : Int) (x120001 : Int) : Option (Int) := lim (fun k => spec_l04Rows.l0 k x1 x2 x7 x120000 x120001)
theorem spec_l04Rows.l0lim (x1 : Int) (x2 : List (List Int)) (x7 : Int) (x120000 : Int) (x120001 : Int) : IsLim (fun k => spec_l04Rows.l0 k x1 x2 x7 x120000 x120001) (spec_l04Rows.l0d x1 x2 x7 x120000 x120001) := lim_spec (fun k => (spec_l04Rows.mono_l k).2 x1 x2 x7 x120000 x120001)
theorem spec_l04Rows.j0d_eq (x1 : Int) (x2 : List (List Int)) (x18 : Bool) (x120000 : Int) (x120001 : Int) : spec_l04Rows.j0d x1 x2 x18 x120000 x120001 = if x18 = true then (some 2) else (spec_l04Rows.l0d x1 x2 0 x120000 x120001) := by
  refine IsLim.unique (spec_l04Rows.j0lim _ _ _ _ _) ?_
  refine IsLim.shift (by rfl) ?_
  simp only [spec_l04Rows.j0]
  repeat' (first | exact IsLim.const _ | refine IsLim.ite ?_ ?_ | refine IsLim.bind ?_ (fun _ => ?_) | exact spec_l04Rows.l0lim ..)
theorem spec_l04Rows.l0d_eq (x1 : Int) (x2 : List (List Int)) (x7 : Int) (x120000 : Int) (x120001 : Int) : spec_l04Rows.l0d x1 x2 x7 x120000 x120001 = if x7 < (x2.length : Int) then (if 0 ≤ x7 then (if ((rd_L1 x2 x7).length : Int) = x1 then ((spec_l04Elements.d x120000 x120001 (rd_L1 x2 x7)).bind fun t124 => (if t124 = true then (spec_l04Rows.l0d x1 x2 (wrap64 (x7 + 1)) x120000 x120001) else (some 2))) else (some 2)) else (none)) else (some 0) := by
  refine IsLim.unique (spec_l04Rows.l0lim _ _ _ _ _) ?_
  refine IsLim.shift (by rfl) ?_
  simp only [spec_l04Rows.l0]
  repeat' (first | exact IsLim.const _ | refine IsLim.ite ?_ ?_ | refine IsLim.bind ?_ (fun _ => ?_) | exact spec_l04Elements.lim .. | exact spec_l04Rows.l0lim ..)
noncomputable def spec_l04Rows.d (a0_0 : Int) (a0_1 : Int) (a1 : Int) (l2 : List (List Int)) : Option (Int) := lim (fun k => spec_l04Rows.f k a0_0 a0_1 a1 l2)
theorem spec_l04Rows.lim (a0_0 : Int) (a0_1 : Int) (a1 : Int) (l2 : List (List Int)) : IsLim (fun k => spec_l04Rows.f k a0_0 a0_1 a1 l2) (spec_l04Rows.d a0_0 a0_1 a1 l2) := lim_spec (fun k => spec_l04Rows.mono a0_0 a0_1 a1 l2 k)
theorem spec_l04Rows.d_eq (a0_0 : Int) (a0_1 : Int) (a1 : Int) (l2 : List (List Int)) : spec_l04Rows.d a0_0 a0_1 a1 l2 = (spec_l01Ok.d a0_0 a0_1).bind fun t120 => (if t120 = true then ((spec_l00In.f a1 1 5).bind fun t121 => (if t121 = true then (spec_l04Rows.j0d a1 l2 (decide ((l2.length : Int) > 10)) a0_0 a0_1) else (spec_l04Rows.j0d a1 l2 true a0_0 a0_1))) else (some 1)) := by
  refine IsLim.unique (spec_l04Rows.lim _ _ _ _) ?_
  unfold spec_l04Rows.f
  repeat' (first | exact IsLim.const _ | refine IsLim.ite ?_ ?_ | refine IsLim.bind ?_ (fun _ => ?_) | exact spec_l01Ok.lim .. | exact spec_l04Rows.j0lim ..)
end Go.Proofs.Ytbalkaphibnpcaa.P
end
section
namespace Go.Proofs.Ytbalkaphibnpcaa.P
open Go.RowKit Go.Proofs.YtbalkaphibnpcaaW.PrintWords Go.Proofs.YtbalkaphibnpcaaW.PrintLast Go.Proofs.YtbalkaphibnpcaaW.PrintMore
set_option linter.unusedVariables false
set_option linter.unusedSimpArgs false
noncomputable def spec_l01Mul.l0d (x1 : Int) (x2 : Int) (x7 : Int) (x8 : Int) (x132000 : Int) (x132001 : Int) : Option (Int) := lim (fun k => spec_l01Mul.l0 k x1 x2 x7 x8 x132000 x132001)
theorem spec_l01Mul.l0lim (x1 : Int) (x2 : Int) (x7 : Int) (x8 : Int) (x132000 : Int) (x132001 : Int) : IsLim (fun k => spec_l01Mul.l0 k x1 x2 x7 x8 x132000 x132001) (spec_l01Mul.l0d x1 x2 x7 x8 x132000 x132001) := lim_spec (fun k => (spec_l01Mul.mono_l k) x1 x2 x7 x8 x132000 x132001)
theorem spec_l01Mul.l0d_eq (x1 : Int) (x2 : Int) (x7 : Int) (x8 : Int) (x132000 : Int) (x132001 : Int) : spec_l01Mul.l0d x1 x2 x7 x8 x132000 x132001 = if x8 < x132000 then (if 0 ≤ (IntKind.u64.wrap (x8)) then (if (Go.bits .and .i64 (shr .i64 x2 (IntKind.u64.wrap (x8))) 1) = 1 then (spec_l01Mul.l0d x1 x2 (Go.bits .xor .i64 x7 (shl .i64 x1 (IntKind.u64.wrap (x8)))) (wrap64 (x8 + 1)) x132000 x132001) else (spec_l01Mul.l0d x1 x2 x7 (wrap64 (x8 + 1)) x132000 x132001)) else (none)) else ((spec_l01Rest.d x7 x132001).bind fun t132 => (some t132)) := by
  refine IsLim.unique (spec_l01Mul.l0lim _ _ _ _ _ _) ?_
  refine IsLim.shift (by rfl) ?_
  simp only [spec_l01Mul.l0]
  repeat' (first | exact IsLim.const _ | refine IsLim.ite ?_ ?_ | refine IsLim.bind ?_ (fun _ => ?_) | exact spec_l01Rest.lim .. | exact spec_l01Mul.l0lim ..)
noncomputable def spec_l01Mul.d (a0_0 : Int) (a0_1 : Int) (a1 : Int) (a2 : Int) : Option (Int) := lim (fun k => spec_l01Mul.f k a0_0 a0_1 a1 a2)
theorem spec_l01Mul.lim (a0_0 : Int) (a0_1 : Int) (a1 : Int) (a2 : Int) : IsLim (fun k => spec_l01Mul.f k a0_0 a0_1 a1 a2) (spec_l01Mul.d a0_0 a0_1 a1 a2) := lim_spec (fun k => spec_l01Mul.mono a0_0 a0_1 a1 a2 k)
theorem spec_l01Mul.d_eq (a0_0 : Int) (a0_1 : Int) (a1 : Int) (a2 : Int) : spec_l01Mul.d a0_0 a0_1 a1 a2 = spec_l01Mul.l0d a1 a2 0 0 a0_0 a0_1 := by
  refine IsLim.unique (spec_l01Mul.lim _ _ _ _) ?_
  unfold spec_l01Mul.f
  repeat' (first | exact IsLim.const _ | refine IsLim.ite ?_ ?_ | refine IsLim.bind ?_ (fun _ => ?_) | exact spec_l01Mul.l0lim ..)
noncomputable def spec_l04Add.l0d (x1 : List Int) (x2 : List Int) (x3 : Int) (x9 : List Int) (x10 : Int) (x134000 : Int) (x134001 : Int) : Option (List Int) := lim (fun k => spec_l04Add.l0 k x1 x2 x3 x9 x10 x134000 x134001)
theorem spec_l04Add.l0lim (x1 : List Int) (x2 : List Int) (x3 : Int) (x9 : List Int) (x10 : Int) (x134000 : Int) (x134001 : Int) : IsLim (fun k => spec_l04Add.l0 k x1 x2 x3 x9 x10 x134000 x134001) (spec_l04Add.l0d x1 x2 x3 x9 x10 x134000 x134001) := lim_spec (fun k => (spec_l04Add.mono_l k) x1 x2 x3 x9 x10 x134000 x134001)
theorem spec_l04Add.l0d_eq (x1 : List Int) (x2 : List Int) (x3 : Int) (x9 : List Int) (x10 : Int) (x134000 : Int) (x134001 : Int) : spec_l04Add.l0d x1 x2 x3 x9 x10 x134000 x134001 = if x10 < (x1.length : Int) then (if 0 ≤ x10 then (if x10 < (x2.length : Int) then ((spec_l01Mul.d x134000 x134001 (rd x2 x10) x3).bind fun t139 => (if x9.length < 17592186044416 then (spec_l04Add.l0d x1 x2 x3 (x9 ++ [Go.bits .xor .i64 (rd x1 x10) t139]) (wrap64 (x10 + 1)) x134000 x134001) else (none))) else (none)) else (none)) else (some x9) := by
  refine IsLim.unique (spec_l04Add.l0lim _ _ _ _ _ _ _) ?_
  refine IsLim.shift (by rfl) ?_
  simp only [spec_l04Add.l0]
  repeat' (first | exact IsLim.const _ | refine IsLim.ite ?_ ?_ | refine IsLim.bind ?_ (fun _ => ?_) | exact spec_l01Mul.lim .. | exact spec_l04Add.l0lim ..)
noncomputable def spec_l04Add.d (a0_0 : Int) (a0_1 : Int) (l1 : List Int) (l2 : List Int) (a3 : Int) : Option (List Int) := lim (fun k => spec_l04Add.f k a0_0 a0_1 l1 l2 a3)
theorem spec_l04Add.lim (a0_0 : Int) (a0_1 : Int) (l1 : List Int) (l2 : List Int) (a3 : Int) : IsLim (fun k => spec_l04Add.f k a0_0 a0_1 l1 l2 a3) (spec_l04Add.d a0_0 a0_1 l1 l2 a3) := lim_spec (fun k => spec_l04Add.mono a0_0 a0_1 l1 l2 a3 k)
theorem spec_l04Add.d_eq (a0_0 : Int) (a0_1 : Int) (l1 : List Int) (l2 : List Int) (a3 : Int) : spec_l04Add.d a0_0 a0_1 l1 l2 a3 = spec_l04Add.l0d l1 l2 a3 (([] : List Int)) 0 a0_0 a0_1 := by
  refine IsLim.unique (spec_l04Add.lim _ _ _ _ _) ?_
  unfold spec_l04Add.f
  repeat' (first | exact IsLim.const _ | refine IsLim.ite ?_ ?_ | refine IsLim.bind ?_ (fun _ => ?_) | exact spec_l04Add.l0lim ..)
noncomputable def spec_l01Power.l0d (x1 : Int) (x2 : Int) (x7 : Int) (x144000 : Int) (x144001 : Int) : Option (Int) := lim (fun k => spec_l01Power.l0 k x1 x2 x7 x144000 x144001)
theorem spec_l01Power.l0lim (x1 : Int) (x2 : Int) (x7 : Int) (x144000 : Int) (x144001 : Int) : IsLim (fun k => spec_l01Power.l0 k x1 x2 x7 x144000 x144001) (spec_l01Power.l0d x1 x2 x7 x144000 x144001) := lim_spec (fun k => (spec_l01Power.mono_l k) x1 x2 x7 x144000 x144001)
theorem spec_l01Power.l0d_eq (x1 : Int) (x2 : Int) (x7 : Int) (x144000 : Int) (x144001 : Int) : spec_l01Power.l0d x1 x2 x7 x144000 x144001 = if x2 > 0 then ((spec_l01Mul.d x144000 x144001 x7 x1).bind fun t144 => (spec_l01Power.l0d x1 (wrap64 (x2 - 1)) t144 x144000 x144001)) else (some x7) := by
  refine IsLim.unique (spec_l01Power.l0lim _ _ _ _ _) ?_
  refine IsLim.shift (by rfl) ?_
  simp only [spec_l01Power.l0]
  repeat' (first | exact IsLim.const _ | refine IsLim.ite ?_ ?_ | refine IsLim.bind ?_ (fun _ => ?_) | exact spec_l01Mul.lim .. | exact spec_l01Power.l0lim ..)
noncomputable def spec_l01Power.d (a0_0 : Int) (a0_1 : Int) (a1 : Int) (a2 : Int) : Option (Int) := lim (fun k => spec_l01Power.f k a0_0 a0_1 a1 a2)
theorem spec_l01Power.lim (a0_0 : Int) (a0_1 : Int) (a1 : Int) (a2 : Int) : IsLim (fun k => spec_l01Power.f k a0_0 a0_1 a1 a2) (spec_l01Power.d a0_0 a0_1 a1 a2) := lim_spec (fun k => spec_l01Power.mono a0_0 a0_1 a1 a2 k)
theorem spec_l01Power.d_eq (a0_0 : Int) (a0_1 : Int) (a1 : Int) (a2 : Int) : spec_l01Power.d a0_0 a0_1 a1 a2 = spec_l01Power.l0d a1 a2 1 a0_0 a0_1 := by
  refine IsLim.unique (spec_l01Power.lim _ _ _ _) ?_
  unfold spec_l01Power.f
  repeat' (first | exact IsLim.const _ | refine IsLim.ite ?_ ?_ | refine IsLim.bind ?_ (fun _ => ?_) | exact spec_l01Power.l0lim ..)
noncomputable def spec_l01Inverse.d (a0_0 : Int) (a0_1 : Int) (a1 : Int) : Option (Int) := lim (fun k => spec_l01Inverse.f k a0_0 a0_1 a1)
theorem spec_l01Inverse.lim (a0_0 : Int) (a0_1 : Int) (a1 : Int) : IsLim (fun k => spec_l01Inverse.f k a0_0 a0_1 a1) (spec_l01Inverse.d a0_0 a0_1 a1) := lim_spec (fun k => spec_l01Inverse.mono a0_0 a0_1 a1 k)
theorem spec_l01Inverse.d_eq (a0_0 : Int) (a0_1 : Int) (a1 : Int) : spec_l01Inverse.d a0_0 a0_1 a1 = (spec_l01Size.f a0_0 a0_1).bind fun t146 => ((spec_l01Power.d a0_0 a0_1 a1 (wrap64 (t146 - 2))).bind fun t147 => (some t147)) := by
  refine IsLim.unique (spec_l01Inverse.lim _ _ _) ?_
  unfold spec_l01Inverse.f
  repeat' (first | exact IsLim.const _ | refine IsLim.ite ?_ ?_ | refine IsLim.bind ?_ (fun _ => ?_) | exact spec_l01Power.lim ..)
end Go.Proofs.Ytbalkaphibnpcaa.P
end
section
namespace Go.Proofs.Ytbalkaphibnpcaa.P
open Go.RowKit Go.Proofs.YtbalkaphibnpcaaW.PrintWords Go.Proofs.YtbalkaphibnpcaaW.PrintLast Go.Proofs.YtbalkaphibnpcaaW.PrintMore
set_option linter.unusedVariables false
set_option linter.unusedSimpArgs false
noncomputable def spec_l04Echelon.l0d (x1 : Int) (x2 : List (List Int)) (x7 : List (List Int)) (x8 : Int) (x149000 : Int) (x149001 : Int) : Option ((List (List Int))) := lim (fun k => spec_l04Echelon.l0 k x1 x2 x7 x8 x149000 x149001)
theorem spec_l04Echelon.l0lim (x1 : Int) (x2 : List (List Int)) (x7 : List (List Int)) (x8 : Int) (x149000 : Int) (x149001 : Int) : IsLim (fun k => spec_l04Echelon.l0 k x1 x2 x7 x8 x149000 x149001) (spec_l04Echelon.l0d x1 x2 x7 x8 x149000 x149001) := lim_spec (fun k => (spec_l04Echelon.mono_l k).1 x1 x2 x7 x8 x149000 x149001)
noncomputable def spec_l04Echelon.l1d (x1 : Int) (x7 : List (List Int)) (x9 : Int) (x10 : Int) (x149000 : Int) (x149001 : Int) : Option ((List (List Int))) := lim (fun k => spec_l04Echelon.l1 k x1 x7 x9 x10 x149000 x149001)
theorem spec_l04Echelon.l1lim (x1 : Int) (x7 : List (List Int)) (x9 : Int) (x10 : Int) (x149000 : Int) (x149001 : Int) : IsLim (fun k => spec_l04Echelon.l1 k x1 x7 x9 x10 x149000 x149001) (spec_l04Echelon.l1d x1 x7 x9 x10 x149000 x149001) := lim_spec (fun k => (spec_l04Echelon.mono_l k).2.1 x1 x7 x9 x10 x149000 x149001)
noncomputable def spec_l04Echelon.j3d (x1 : Int) (x7 : List (List Int)) (x9 : Int) (x10 : Int) (x11 : Int) (x149000 : Int) (x149001 : Int) : Option ((List (List Int))) := lim (fun k => spec_l04Echelon.j3 k x1 x7 x9 x10 x11 x149000 x149001)
theorem spec_l04Echelon.j3lim (x1 : Int) (x7 : List (List Int)) (x9 : Int) (x10 : Int) (x11 : Int) (x149000 : Int) (x149001 : Int) : IsLim (fun k => spec_l04Echelon.j3 k x1 x7 x9 x10 x11 x149000 x149001) (spec_l04Echelon.j3d x1 x7 x9 x10 x11 x149000 x149001) := lim_spec (fun k => (spec_l04Echelon.mono_l k).2.2.1 x1 x7 x9 x10 x11 x149000 x149001)
noncomputable def spec_l04Echelon.l3d (x1 : Int) (x7 : List (List Int)) (x9 : Int) (x10 : Int) (x13 : Int) (x149000 : Int) (x149001 : Int) : Option ((List (List Int))) := lim (fun k => spec_l04Echelon.l3 k x1 x7 x9 x10 x13 x149000 x149001)
theorem spec_l04Echelon.l3lim (x1 : Int) (x7 : List (List Int)) (x9 : Int) (x10 : Int) (x13 : Int) (x149000 : Int) (x149001 : Int) : IsLim (fun k => spec_l04Echelon.l3 k x1 x7 x9 x10 x13 x149000 x149001) (spec_l04Echelon.l3d x1 x7 x9 x10 x13 x149000 x149001) := lim_spec (fun k => (spec_l04Echelon.mono_l k).2.2.2.1 x1 x7 x9 x10 x13 x149000 x149001)
noncomputable def spec_l04Echelon.l2d (x1 : Int) (x7 : List (List Int)) (x9 : Int) (x10 : Int) (x11 : Int) (x149000 : Int) (x149001 : Int) : Option ((List (List Int))) := lim (fun k => spec_l04Echelon.l2 k x1 x7 x9 x10 x11 x149000 x149001)
theorem spec_l04Echelon.l2lim (x1 : Int) (x7 : List (List Int)) (x9 : Int) (x10 : Int) (x11 : Int) (x149000 : Int) (x149001 : Int) : IsLim (fun k => spec_l04Echelon.l2 k x1 x7 x9 x10 x11 x149000 x149001) (spec_l04Echelon.l2d x1 x7 x9 x10 x11 x149000 x149001) := lim_spec (fun k => (spec_l04Echelon.mono_l k).2.2.2.2 x1 x7 x9 x10 x11 x149000 x149001)
theorem spec_l04Echelon.l0d_eq (x1 : Int) (x2 : List (List Int)) (x7 : List (List Int)) (x8 : Int) (x149000 : Int) (x149001 : Int) : spec_l04Echelon.l0d x1 x2 x7 x8 x149000 x149001 = if x8 < (x2.length : Int) then (if 0 ≤ x8 then ((spec_l00Own.f (rd_L1 x2 x8)).bind fun t153 => (if x7.length < 5864062014805 then (spec_l04Echelon.l0d x1 x2 (x7 ++ [t153]) (wrap64 (x8 + 1)) x149000 x149001) else (none))) else (none)) else (spec_l04Echelon.l1d x1 x7 0 0 x149000 x149001) := by
  refine IsLim.unique (spec_l04Echelon.l0lim _ _ _ _ _ _) ?_
  refine IsLim.shift (by rfl) ?_
  simp only [spec_l04Echelon.l0]
  repeat' (first | exact IsLim.const _ | refine IsLim.ite ?_ ?_ | refine IsLim.bind ?_ (fun _ => ?_) | exact spec_l04Echelon.l0lim .. | exact spec_l04Echelon.l1lim ..)
theorem spec_l04Echelon.l1d_eq (x1 : Int) (x7 : List (List Int)) (x9 : Int) (x10 : Int) (x149000 : Int) (x149001 : Int) : spec_l04Echelon.l1d x1 x7 x9 x10 x149000 x149001 = if x10 < x1 then (spec_l04Echelon.l2d x1 x7 x9 x10 x9 x149000 x149001) else (if 0 ≤ x9 then (if x9 ≤ (x7.length : Int) then (some (x7.take (x9 : Int).toNat)) else (none)) else (none)) := by
  refine IsLim.unique (spec_l04Echelon.l1lim _ _ _ _ _ _) ?_
  refine IsLim.shift (by rfl) ?_
  simp only [spec_l04Echelon.l1]
  repeat' (first | exact IsLim.const _ | refine IsLim.ite ?_ ?_ | refine IsLim.bind ?_ (fun _ => ?_) | exact spec_l04Echelon.l2lim ..)
theorem spec_l04Echelon.j3d_eq (x1 : Int) (x7 : List (List Int)) (x9 : Int) (x10 : Int) (x11 : Int) (x149000 : Int) (x149001 : Int) : spec_l04Echelon.j3d x1 x7 x9 x10 x11 x149000 x149001 = if x11 = (x7.length : Int) then (spec_l04Echelon.l1d x1 x7 x9 (wrap64 (x10 + 1)) x149000 x149001) else (if 0 ≤ x11 then (if x11 < (x7.length : Int) then (if 0 ≤ x9 then (if x9 < (x7.length : Int) then (if 0 ≤ x1 then (if (x1 : Int).toNat ≤ 35184372088832 then (if 0 ≤ x10 then (if x10 < ((rd_L1 x7 x11).length : Int) then ((spec_l01Inverse.d x149000 x149001 (rd (rd_L1 x7 x11) x10)).bind fun t171 => ((spec_l04Add.d x149000 x149001 (List.replicate (x1 : Int).toNat 0) (rd_L1 x7 x11) t171).bind fun t172 => (spec_l04Echelon.l3d x1 ((x7.set (x11 : Int).toNat (rd_L1 x7 x9)).set (x9 : Int).toNat t172) x9 x10 0 x149000 x149001))) else (none)) else (none)) else (none)) else (none)) else (none)) else (none)) else (none)) else (none)) := by
  refine IsLim.unique (spec_l04Echelon.j3lim _ _ _ _ _ _ _) ?_
  refine IsLim.shift (by rfl) ?_
  simp only [spec_l04Echelon.j3]
  repeat' (first | exact IsLim.const _ | refine IsLim.ite ?_ ?_ | refine IsLim.bind ?_ (fun _ => ?_) | exact spec_l01Inverse.lim .. | exact spec_l04Add.lim .. | exact spec_l04Echelon.l1lim .. | exact spec_l04Echelon.l3lim ..)
theorem spec_l04Echelon.l3d_eq (x1 : Int) (x7 : List (List Int)) (x9 : Int) (x10 : Int) (x13 : Int) (x149000 : Int) (x149001 : Int) : spec_l04Echelon.l3d x1 x7 x9 x10 x13 x149000 x149001 = if x13 < (x7.length : Int) then (if x13 = x9 then (spec_l04Echelon.l3d x1 x7 x9 x10 (wrap64 (x13 + 1)) x149000 x149001) else (if 0 ≤ x13 then (if 0 ≤ x10 then (if x10 < ((rd_L1 x7 x13).length : Int) then (if (rd (rd_L1 x7 x13) x10) = 0 then (spec_l04Echelon.l3d x1 x7 x9 x10 (wrap64 (x13 + 1)) x149000 x149001) else (if 0 ≤ x9 then (if x9 < (x7.length : Int) then ((spec_l04Add.d x149000 x149001 (rd_L1 x7 x13) (rd_L1 x7 x9) (rd (rd_L1 x7 x13) x10)).bind fun t182 => (spec_l04Echelon.l3d x1 (x7.set (x13 : Int).toNat t182) x9 x10 (wrap64 (x13 + 1)) x149000 x149001)) else (none)) else (none))) else (none)) else (none)) else (none))) else (spec_l04Echelon.l1d x1 x7 (wrap64 (x9 + 1)) (wrap64 (x10 + 1)) x149000 x149001) := by
  refine IsLim.unique (spec_l04Echelon.l3lim _ _ _ _ _ _ _) ?_
  refine IsLim.shift (by rfl) ?_
  simp only [spec_l04Echelon.l3]
  repeat' (first | exact IsLim.const _ | refine IsLim.ite ?_ ?_ | refine IsLim.bind ?_ (fun _ => ?_) | exact spec_l04Add.lim .. | exact spec_l04Echelon.l3lim .. | exact spec_l04Echelon.l1lim ..)
theorem spec_l04Echelon.l2d_eq (x1 : Int) (x7 : List (List Int)) (x9 : Int) (x10 : Int) (x11 : Int) (x149000 : Int) (x149001 : Int) : spec_l04Echelon.l2d x1 x7 x9 x10 x11 x149000 x149001 = if x11 < (x7.length : Int) then (if 0 ≤ x11 then (if 0 ≤ x10 then (if x10 < ((rd_L1 x7 x11).length : Int) then (if (rd (rd_L1 x7 x11) x10) = 0 then (spec_l04Echelon.l2d x1 x7 x9 x10 (wrap64 (x11 + 1)) x149000 x149001) else (spec_l04Echelon.j3d x1 x7 x9 x10 x11 x149000 x149001)) else (none)) else (none)) else (none)) else (spec_l04Echelon.j3d x1 x7 x9 x10 x11 x149000 x149001) := by
  refine IsLim.unique (spec_l04Echelon.l2lim _ _ _ _ _ _ _) ?_
  refine IsLim.shift (by rfl) ?_
  simp only [spec_l04Echelon.l2]
  repeat' (first | exact IsLim.const _ | refine IsLim.ite ?_ ?_ | refine IsLim.bind ?_ (fun _ => ?_) | exact spec_l04Echelon.l2lim .. | exact spec_l04Echelon.j3lim ..)
noncomputable def spec_l04Echelon.d (a0_0 : Int) (a0_1 : Int) (a1 : Int) (l2 : List (List Int)) : Option ((List (List Int))) := lim (fun k => spec_l04Echelon.f k a0_0 a0_1 a1 l2)
theorem spec_l04Echelon.lim (a0_0 : Int) (a0_1 : Int) (a1 : Int) (l2 : List (List Int)) : IsLim (fun k => spec_l04Echelon.f k a0_0 a0_1 a1 l2) (spec_l04Echelon.d a0_0 a0_1 a1 l2) := lim_spec (fun k => spec_l04Echelon.mono a0_0 a0_1 a1 l2 k)
theorem spec_l04Echelon.d_eq (a0_0 : Int) (a0_1 : Int) (a1 : Int) (l2 : List (List Int)) : spec_l04Echelon.d a0_0 a0_1 a1 l2 = spec_l04Echelon.l0d a1 l2 (([] : List (List Int))) 0 a0_0 a0_1 := by
  refine IsLim.unique (spec_l04Echelon.lim _ _ _ _) ?_
  unfold spec_l04Echelon.f
  repeat' (first | exact IsLim.const _ | refine IsLim.ite ?_ ?_ | refine IsLim.bind ?_ (fun _ => ?_) | exact spec_l04Echelon.l0lim ..)
end Go.Proofs.Ytbalkaphibnpcaa.P
end
section
namespace Go.Proofs.Ytbalkaphibnpcaa.P
open Go.RowKit Go.Proofs.YtbalkaphibnpcaaW.PrintWords Go.Proofs.YtbalkaphibnpcaaW.PrintLast Go.Proofs.YtbalkaphibnpcaaW.PrintMore
set_option linter.unusedVariables false
set_option linter.unusedSimpArgs false
noncomputable def spec_FieldEchelon.d (a0_0 : Int) (a0_1 : Int) (a1 : Int) (l2 : List (List Int)) : Option ((List (List Int)) × Int) := lim (fun k => spec_FieldEchelon.f k a0_0 a0_1 a1 l2)
theorem spec_FieldEchelon.lim (a0_0 : Int) (a0_1 : Int) (a1 : Int) (l2 : List (List Int)) : IsLim (fun k => spec_FieldEchelon.f k a0_0 a0_1 a1 l2) (spec_FieldEchelon.d a0_0 a0_1 a1 l2) := lim_spec (fun k => spec_FieldEchelon.mono a0_0 a0_1 a1 l2 k)
theorem spec_FieldEchelon.d_eq (a0_0 : Int) (a0_1 : Int) (a1 : Int) (l2 : List (List Int)) : spec_FieldEchelon.d a0_0 a0_1 a1 l2 = (spec_l04Rows.d a0_0 a0_1 a1 l2).bind fun t309 => (if t309 = 0 then ((spec_l04Echelon.d a0_0 a0_1 a1 l2).bind fun t310 => (some (t310, 0))) else (some ((([] : List (List Int))), t309))) := by
  refine IsLim.unique (spec_FieldEchelon.lim _ _ _ _) ?_
  unfold spec_FieldEchelon.f
  repeat' (first | exact IsLim.const _ | refine IsLim.ite ?_ ?_ | refine IsLim.bind ?_ (fun _ => ?_) | exact spec_l04Rows.lim .. | exact spec_l04Echelon.lim ..)
noncomputable def laws_heldInt64SS.l0d (x0 : List (List Int)) (x1 : Int) (x5 : Int) : Option (Int) := lim (fun k => laws_heldInt64SS.l0 k x0 x1 x5)
theorem laws_heldInt64SS.l0lim (x0 : List (List Int)) (x1 : Int) (x5 : Int) : IsLim (fun k => laws_heldInt64SS.l0 k x0 x1 x5) (laws_heldInt64SS.l0d x0 x1 x5) := lim_spec (fun k => (laws_heldInt64SS.mono_l k) x0 x1 x5)
theorem laws_heldInt64SS.l0d_eq (x0 : List (List Int)) (x1 : Int) (x5 : Int) : laws_heldInt64SS.l0d x0 x1 x5 = if x5 < (x0.length : Int) then (if 0 ≤ x5 then ((laws_heldInt64S.d (rd_L1 x0 x5) x1).bind fun t319 => (if t319 < 0 then (some (-1)) else (laws_heldInt64SS.l0d x0 t319 (wrap64 (x5 + 1))))) else (none)) else (some x1) := by
  refine IsLim.unique (laws_heldInt64SS.l0lim _ _ _) ?_
  refine IsLim.shift (by rfl) ?_
  simp only [laws_heldInt64SS.l0]
  repeat' (first | exact IsLim.const _ | refine IsLim.ite ?_ ?_ | refine IsLim.bind ?_ (fun _ => ?_) | exact laws_heldInt64S.lim .. | exact laws_heldInt64SS.l0lim ..)
noncomputable def laws_heldInt64SS.d (l0 : List (List Int)) (a1 : Int) : Option (Int) := lim (fun k => laws_heldInt64SS.f k l0 a1)
theorem laws_heldInt64SS.lim (l0 : List (List Int)) (a1 : Int) : IsLim (fun k => laws_heldInt64SS.f k l0 a1) (laws_heldInt64SS.d l0 a1) := lim_spec (fun k => laws_heldInt64SS.mono l0 a1 k)
theorem laws_heldInt64SS.d_eq (l0 : List (List Int)) (a1 : Int) : laws_heldInt64SS.d l0 a1 = laws_heldInt64SS.l0d l0 a1 0 := by
  refine IsLim.unique (laws_heldInt64SS.lim _ _) ?_
  unfold laws_heldInt64SS.f
  repeat' (first | exact IsLim.const _ | refine IsLim.ite ?_ ?_ | refine IsLim.bind ?_ (fun _ => ?_) | exact laws_heldInt64SS.l0lim ..)
end Go.Proofs.Ytbalkaphibnpcaa.P
end
section
namespace Go.Proofs.Ytbalkaphibnpcaa.P
open Go.RowKit Go.Proofs.YtbalkaphibnpcaaW.PrintWords Go.Proofs.YtbalkaphibnpcaaW.PrintLast Go.Proofs.YtbalkaphibnpcaaW.PrintMore
set_option linter.unusedVariables false
set_option linter.unusedSimpArgs false
noncomputable def laws_eqInt64SS.l0d (x0 : List (List Int)) (x1 : List (List Int)) (x5 : Int) : Option (Bool) := lim (fun k => laws_eqInt64SS.l0 k x0 x1 x5)
theorem laws_eqInt64SS.l0lim (x0 : List (List Int)) (x1 : List (List Int)) (x5 : Int) : IsLim (fun k => laws_eqInt64SS.l0 k x0 x1 x5) (laws_eqInt64SS.l0d x0 x1 x5) := lim_spec (fun k => (laws_eqInt64SS.mono_l k) x0 x1 x5)
theorem laws_eqInt64SS.l0d_eq (x0 : List (List Int)) (x1 : List (List Int)) (x5 : Int) : laws_eqInt64SS.l0d x0 x1 x5 = if x5 < (x0.length : Int) then (if 0 ≤ x5 then (if x5 < (x1.length : Int) then ((laws_eqInt64S.d (rd_L1 x0 x5) (rd_L1 x1 x5)).bind fun t287 => (if t287 = true then (laws_eqInt64SS.l0d x0 x1 (wrap64 (x5 + 1))) else (some false))) else (none)) else (none)) else (some true) := by
  refine IsLim.unique (laws_eqInt64SS.l0lim _ _ _) ?_
  refine IsLim.shift (by rfl) ?_
  simp only [laws_eqInt64SS.l0]
  repeat' (first | exact IsLim.const _ | refine IsLim.ite ?_ ?_ | refine IsLim.bind ?_ (fun _ => ?_) | exact laws_eqInt64S.lim .. | exact laws_eqInt64SS.l0lim ..)
noncomputable def laws_eqInt64SS.d (l0 : List (List Int)) (l1 : List (List Int)) : Option (Bool) := lim (fun k => laws_eqInt64SS.f k l0 l1)
theorem laws_eqInt64SS.lim (l0 : List (List Int)) (l1 : List (List Int)) : IsLim (fun k => laws_eqInt64SS.f k l0 l1) (laws_eqInt64SS.d l0 l1) := lim_spec (fun k => laws_eqInt64SS.mono l0 l1 k)
theorem laws_eqInt64SS.d_eq (l0 : List (List Int)) (l1 : List (List Int)) : laws_eqInt64SS.d l0 l1 = if (l0.length : Int) = (l1.length : Int) then (laws_eqInt64SS.l0d l0 l1 0) else (some false) := by
  refine IsLim.unique (laws_eqInt64SS.lim _ _) ?_
  unfold laws_eqInt64SS.f
  repeat' (first | exact IsLim.const _ | refine IsLim.ite ?_ ?_ | refine IsLim.bind ?_ (fun _ => ?_) | exact laws_eqInt64SS.l0lim ..)
end Go.Proofs.Ytbalkaphibnpcaa.P
end
section
namespace Go.Proofs.Ytbalkaphibnpcaa.P
open Go.RowKit Go.Proofs.YtbalkaphibnpcaaW.PrintWords Go.Proofs.YtbalkaphibnpcaaW.PrintLast Go.Proofs.YtbalkaphibnpcaaW.PrintMore
set_option linter.unusedVariables false
set_option linter.unusedSimpArgs false
noncomputable def laws_markInt64SS.l0d (x0 : List (List Int)) (x1 : Int) (x5 : Int) : Option (Int × List (List Int)) := lim (fun k => laws_markInt64SS.l0 k x0 x1 x5)
theorem laws_markInt64SS.l0lim (x0 : List (List Int)) (x1 : Int) (x5 : Int) : IsLim (fun k => laws_markInt64SS.l0 k x0 x1 x5) (laws_markInt64SS.l0d x0 x1 x5) := lim_spec (fun k => (laws_markInt64SS.mono_l k) x0 x1 x5)
theorem laws_markInt64SS.l0d_eq (x0 : List (List Int)) (x1 : Int) (x5 : Int) : laws_markInt64SS.l0d x0 x1 x5 = if x5 < (x0.length : Int) then (if 0 ≤ x5 then ((laws_markInt64S.d (rd_L1 x0 x5) x1).bind fun bt => (laws_markInt64SS.l0d (x0.set x5.toNat bt.2) bt.1 (wrap64 (x5 + 1)))) else (none)) else (some (x1, x0)) := by
  refine IsLim.unique (laws_markInt64SS.l0lim _ _ _) ?_
  refine IsLim.shift (by rfl) ?_
  simp only [laws_markInt64SS.l0]
  repeat' (first | exact IsLim.const _ | refine IsLim.ite ?_ ?_ | refine IsLim.bind ?_ (fun _ => ?_) | exact laws_markInt64S.lim .. | exact laws_markInt64SS.l0lim ..)
noncomputable def laws_markInt64SS.d (l0 : List (List Int)) (a1 : Int) : Option (Int × List (List Int)) := lim (fun k => laws_markInt64SS.f k l0 a1)
theorem laws_markInt64SS.lim (l0 : List (List Int)) (a1 : Int) : IsLim (fun k => laws_markInt64SS.f k l0 a1) (laws_markInt64SS.d l0 a1) := lim_spec (fun k => laws_markInt64SS.mono l0 a1 k)
theorem laws_markInt64SS.d_eq (l0 : List (List Int)) (a1 : Int) : laws_markInt64SS.d l0 a1 = laws_markInt64SS.l0d l0 a1 0 := by
  refine IsLim.unique (laws_markInt64SS.lim _ _) ?_
  unfold laws_markInt64SS.f
  repeat' (first | exact IsLim.const _ | refine IsLim.ite ?_ ?_ | refine IsLim.bind ?_ (fun _ => ?_) | exact laws_markInt64SS.l0lim ..)
end Go.Proofs.Ytbalkaphibnpcaa.P
end
section
namespace Go.Proofs.Ytbalkaphibnpcaa.P
open Go.RowKit Go.Proofs.YtbalkaphibnpcaaW.PrintWords Go.Proofs.YtbalkaphibnpcaaW.PrintLast Go.Proofs.YtbalkaphibnpcaaW.PrintMore
set_option linter.unusedVariables false
set_option linter.unusedSimpArgs false
noncomputable def laws_FnExactFieldEchelon.j0d (x1 : Int) (x2 : List (List Int)) (x8 : List (List Int)) (x9 : Int) (x10 : List (List Int)) (x11 : List (List Int)) (x12 : Int) (x50 : Bool) (x321000 : Int) (x321001 : Int) : Option (Bool) := lim (fun k => laws_FnExactFieldEchelon.j0 k x1 x2 x8 x9 x10 x11 x12 x50 x321000 x321001)
theorem laws_FnExactFieldEchelon.j0lim (x1 : Int) (x2 : List (List Int)) (x8 : List (List Int)) (x9 : Int) (x10 : List (List Int)) (x11 : List (List Int)) (x12 : Int) (x50 : Bool) (x321000 : Int) (x321001 : Int) : IsLim (fun k => laws_FnExactFieldEchelon.j0 k x1 x2 x8 x9 x10 x11 x12 x50 x321000 x321001) (laws_FnExactFieldEchelon.j0d x1 x2 x8 x9 x10 x11 x12 x50 x321000 x321001) := lim_spec (fun k => (laws_FnExactFieldEchelon.mono_l k).1 x1 x2 x8 x9 x10 x11 x12 x50 x321000 x321001)
noncomputable def laws_FnExactFieldEchelon.j1d (x1 : Int) (x2 : List (List Int)) (x8 : List (List Int)) (x9 : Int) (x11 : List (List Int)) (x71 : Bool) (x321000 : Int) (x321001 : Int) : Option (Bool) := lim (fun k => laws_FnExactFieldEchelon.j1 k x1 x2 x8 x9 x11 x71 x321000 x321001)
theorem laws_FnExactFieldEchelon.j1lim (x1 : Int) (x2 : List (List Int)) (x8 : List (List Int)) (x9 : Int) (x11 : List (List Int)) (x71 : Bool) (x321000 : Int) (x321001 : Int) : IsLim (fun k => laws_FnExactFieldEchelon.j1 k x1 x2 x8 x9 x11 x71 x321000 x321001) (laws_FnExactFieldEchelon.j1d x1 x2 x8 x9 x11 x71 x321000 x321001) := lim_spec (fun k => (laws_FnExactFieldEchelon.mono_l k).2.1 x1 x2 x8 x9 x11 x71 x321000 x321001)
noncomputable def laws_FnExactFieldEchelon.j2d (x11 : List (List Int)) (x14 : Int) (x100 : Bool) : Option (Bool) := lim (fun k => laws_FnExactFieldEchelon.j2 k x11 x14 x100)
theorem laws_FnExactFieldEchelon.j2lim (x11 : List (List Int)) (x14 : Int) (x100 : Bool) : IsLim (fun k => laws_FnExactFieldEchelon.j2 k x11 x14 x100) (laws_FnExactFieldEchelon.j2d x11 x14 x100) := lim_spec (fun k => (laws_FnExactFieldEchelon.mono_l k).2.2 x11 x14 x100)
theorem laws_FnExactFieldEchelon.j0d_eq (x1 : Int) (x2 : List (List Int)) (x8 : List (List Int)) (x9 : Int) (x10 : List (List Int)) (x11 : List (List Int)) (x12 : Int) (x50 : Bool) (x321000 : Int) (x321001 : Int) : laws_FnExactFieldEchelon.j0d x1 x2 x8 x9 x10 x11 x12 x50 x321000 x321001 = if x50 = true then (some false) else ((laws_toInt64SS.d x2).bind fun t341 => ((laws_eqInt64SS.d x10 t341).bind fun t344 => (if t344 = true then ((laws_markInt64SS.d x10 1).bind fun bt345 => (if bt345.1 < 0 then (laws_FnExactFieldEchelon.j1d x1 x2 x8 x9 x11 true x321000 x321001) else ((laws_eqInt64SS.d x11 x8).bind fun t346 => (if t346 = true then (laws_FnExactFieldEchelon.j1d x1 x2 x8 x9 x11 (x12 != x9) x321000 x321001) else (laws_FnExactFieldEchelon.j1d x1 x2 x8 x9 x11 true x321000 x321001))))) else (some false)))) := by
  refine IsLim.unique (laws_FnExactFieldEchelon.j0lim _ _ _ _ _ _ _ _ _ _) ?_
  refine IsLim.shift (by rfl) ?_
  simp only [laws_FnExactFieldEchelon.j0]
  repeat' (first | exact IsLim.const _ | refine IsLim.ite ?_ ?_ | refine IsLim.bind ?_ (fun _ => ?_) | exact laws_toInt64SS.lim .. | exact laws_eqInt64SS.lim .. | exact laws_markInt64SS.lim .. | exact laws_FnExactFieldEchelon.j1lim ..)
theorem laws_FnExactFieldEchelon.j1d_eq (x1 : Int) (x2 : List (List Int)) (x8 : List (List Int)) (x9 : Int) (x11 : List (List Int)) (x71 : Bool) (x321000 : Int) (x321001 : Int) : laws_FnExactFieldEchelon.j1d x1 x2 x8 x9 x11 x71 x321000 x321001 = if x71 = true then (some false) else ((laws_markInt64SS.d x11 1).bind fun bt347 => ((laws_heldInt64SS.d bt347.2 1).bind fun t348 => (if t348 < 0 then (some false) else (if t348 = bt347.1 then ((laws_toField.f x321000 x321001).bind fun bt349 => ((laws_toInt64SS.d x2).bind fun t351 => ((impl_FieldEchelon.d bt349.1 bt349.2 x1 t351).bind fun bt354 => ((laws_eqInt64SS.d bt354.1 x8).bind fun t358 => (if t358 = true then (laws_FnExactFieldEchelon.j2d bt347.2 bt347.1 (bt354.2 != x9)) else (laws_FnExactFieldEchelon.j2d bt347.2 bt347.1 true)))))) else (some false))))) := by
  refine IsLim.unique (laws_FnExactFieldEchelon.j1lim _ _ _ _ _ _ _ _) ?_
  refine IsLim.shift (by rfl) ?_
  simp only [laws_FnExactFieldEchelon.j1]
  repeat' (first | exact IsLim.const _ | refine IsLim.ite ?_ ?_ | refine IsLim.bind ?_ (fun _ => ?_) | exact laws_markInt64SS.lim .. | exact laws_heldInt64SS.lim .. | exact laws_toInt64SS.lim .. | exact impl_FieldEchelon.lim .. | exact laws_eqInt64SS.lim .. | exact laws_FnExactFieldEchelon.j2lim ..)
theorem laws_FnExactFieldEchelon.j2d_eq (x11 : List (List Int)) (x14 : Int) (x100 : Bool) : laws_FnExactFieldEchelon.j2d x11 x14 x100 = if x100 = true then (some false) else ((laws_heldInt64SS.d x11 1).bind fun t359 => (if t359 < 0 then (some false) else (if t359 = x14 then (some true) else (some false)))) := by
  refine IsLim.unique (laws_FnExactFieldEchelon.j2lim _ _ _) ?_
  refine IsLim.shift (by rfl) ?_
  simp only [laws_FnExactFieldEchelon.j2]
  repeat' (first | exact IsLim.const _ | refine IsLim.ite ?_ ?_ | refine IsLim.bind ?_ (fun _ => ?_) | exact laws_heldInt64SS.lim ..)
noncomputable def laws_FnExactFieldEchelon.d (a0_0 : Int) (a0_1 : Int) (a1 : Int) (l2 : List (List Int)) : Option (Bool) := lim (fun k => laws_FnExactFieldEchelon.f k a0_0 a0_1 a1 l2)
theorem laws_FnExactFieldEchelon.lim (a0_0 : Int) (a0_1 : Int) (a1 : Int) (l2 : List (List Int)) : IsLim (fun k => laws_FnExactFieldEchelon.f k a0_0 a0_1 a1 l2) (laws_FnExactFieldEchelon.d a0_0 a0_1 a1 l2) := lim_spec (fun k => laws_FnExactFieldEchelon.mono a0_0 a0_1 a1 l2 k)
theorem laws_FnExactFieldEchelon.d_eq (a0_0 : Int) (a0_1 : Int) (a1 : Int) (l2 : List (List Int)) : laws_FnExactFieldEchelon.d a0_0 a0_1 a1 l2 = (laws_szInt64SS.d l2 1048576).bind fun t321 => (if t321 < 0 then (some true) else ((laws_toField.f a0_0 a0_1).bind fun bt322 => ((laws_toInt64SS.d l2).bind fun t324 => ((spec_FieldEchelon.d bt322.1 bt322.2 a1 t324).bind fun bt327 => ((laws_toInt64SS.d l2).bind fun t331 => ((laws_toField.f a0_0 a0_1).bind fun bt334 => ((impl_FieldEchelon.d bt334.1 bt334.2 a1 t331).bind fun bt336 => ((laws_eqInt64SS.d bt336.1 bt327.1).bind fun t340 => (if t340 = true then (laws_FnExactFieldEchelon.j0d a1 l2 bt327.1 bt327.2 t331 bt336.1 bt336.2 (bt336.2 != bt327.2) a0_0 a0_1) else (laws_FnExactFieldEchelon.j0d a1 l2 bt327.1 bt327.2 t331 bt336.1 bt336.2 true a0_0 a0_1)))))))))) := by
  refine IsLim.unique (laws_FnExactFieldEchelon.lim _ _ _ _) ?_
  unfold laws_FnExactFieldEchelon.f
  repeat' (first | exact IsLim.const _ | refine IsLim.ite ?_ ?_ | refine IsLim.bind ?_ (fun _ => ?_) | exact laws_szInt64SS.lim .. | exact laws_toInt64SS.lim .. | exact spec_FieldEchelon.lim .. | exact impl_FieldEchelon.lim .. | exact laws_eqInt64SS.lim .. | exact laws_FnExactFieldEchelon.j0lim ..)
end Go.Proofs.Ytbalkaphibnpcaa.P
end
section
namespace Go.Proofs.Ytbalkaphibnpcaa.P
open Go.RowKit Go.Proofs.YtbalkaphibnpcaaW.PrintWords Go.Proofs.YtbalkaphibnpcaaW.PrintLast Go.Proofs.YtbalkaphibnpcaaW.PrintMore
set_option linter.unusedVariables false
set_option linter.unusedSimpArgs false
theorem wr {x : Int} (h0 : -9223372036854775808 ≤ x) (h1 : x < 9223372036854775808) : wrap64 x = x := by
  unfold wrap64; omega
theorem wrS {i n : Nat} (h : i < n) (hn : n ≤ 17592186044416) : wrap64 ((i : Int) + 1) = ((i + 1 : Nat) : Int) := by rw [wr (by omega) (by omega)]; omega
theorem u64_id {x : Int} (h0 : 0 ≤ x) (h1 : x < 9223372036854775808) : IntKind.u64.wrap x = x := by rw [IntKind.wrap_u64]; omega
theorem down {Q : Nat → Prop} {n : Nat} (h0 : Q n) (hs : ∀ i, i < n → Q (i + 1) → Q i) : ∀ i, i ≤ n → Q i := by
  intro i hi
  obtain ⟨d, hd⟩ : ∃ d, d = n - i := ⟨_, rfl⟩
  induction d generalizing i with
  | zero => have : i = n := by omega
            exact this ▸ h0
  | succ d ih => exact hs i (by omega) (ih (i + 1) (by omega) (by omega))
theorem rd_get {l : List Int} {i : Nat} (h : i < l.length) : rd l (i : Int) = l[i] := rd_at l i h
theorem bind_some' {α β : Type} (a : α) (f : α → Option β) : (some a).bind f = f a := rfl
/-- a, a + 1, .. -/
def iota (a : Int) : Nat → List Int
  | 0 => []
  | n + 1 => a :: iota (a + 1) n
theorem iota_length (a : Int) (n : Nat) : (iota a n).length = n := by
  induction n generalizing a with
  | zero => rfl
  | succ n ih => simp [iota, ih]
theorem iota_get (a : Int) (n : Nat) : ∀ (i : Nat) (h : i < (iota a n).length), (iota a n)[i] = a + i := by
  induction n generalizing a with
  | zero => intro i h; simp [iota] at h
  | succ n ih =>
    intro i h
    cases i with
    | zero => simp [iota]
    | succ i => simp only [iota, List.getElem_cons_succ]; rw [ih]; omega
theorem iota_snoc (a : Int) (n : Nat) : iota a (n + 1) = iota a n ++ [a + n] := by
  induction n generalizing a with
  | zero => simp [iota]
  | succ n ih => rw [iota, ih, iota]; simp; omega
/-- a list built by a walk upward -/
theorem build_gen {α R : Type} {F : Int → List α → Option R} {n : Nat} {g : Nat → α} {r : Option R}
    (heq : ∀ i : Nat, i < n → ∀ acc : List α, acc.length = i → F (i : Int) acc = F ((i + 1 : Nat) : Int) (acc ++ [g i]))
    (hend : F (n : Int) ((List.range n).map g) = r) : F 0 [] = r := by
  have key : ∀ i, i ≤ n → F (i : Int) ((List.range i).map g) = r := by
    apply down
    · exact hend
    · intro i hi e
      rw [heq i hi _ (by simp), ← e, List.range_succ, List.map_append]; rfl
  exact key 0 (by omega)
/-- the first place where `q` holds, by a walk upward -/
theorem index_gen {F : Int → Option Int} {n : Nat} {q : Nat → Bool} (hend : F (n : Int) = some (-1))
    (heq : ∀ i : Nat, i < n → F (i : Int) = if q i = true then some (i : Int) else F ((i + 1 : Nat) : Int)) :
    ∃ v, F 0 = some v ∧ (decide (v ≥ 0) = !decide (∀ i, i < n → q i = false)) ∧ (0 ≤ v → v.toNat < n ∧ q v.toNat = true ∧ ∀ j, j < v.toNat → q j = false) := by
  have key : ∀ i, i ≤ n → ∃ v, F (i : Int) = some v ∧ (v ≥ 0 ↔ ¬ ∀ j, i ≤ j → j < n → q j = false) ∧ (0 ≤ v → i ≤ v.toNat ∧ v.toNat < n ∧ q v.toNat = true ∧ ∀ j, i ≤ j → j < v.toNat → q j = false) := by
    apply down
    · exact ⟨-1, hend, ⟨fun h => absurd h (by decide), fun h => absurd (fun j _ _ => by omega) h⟩, fun h => absurd h (by decide)⟩
    · intro i hi ⟨v, e, c, d⟩
      rw [heq i hi]
      by_cases hq : q i = true
      · rw [if_pos hq]
        exact ⟨i, rfl, ⟨fun _ h => (by rw [h i (by omega) hi] at hq; cases hq), fun _ => by omega⟩, fun _ => ⟨by simp, by simpa using hi, by simpa using hq, fun j h1 h2 => by simp at h2; omega⟩⟩
      · rw [if_neg hq]
        have hq' : q i = false := Bool.eq_false_iff.mpr hq
        refine ⟨v, e, c.trans ⟨fun h h' => h fun j a b => h' j (by omega) b, fun h h' => h fun j a b => ?_⟩, fun h => ?_⟩
        · rcases Nat.lt_or_ge i j with z | z
          · exact h' j z b
          · have : j = i := by omega
            rw [this, hq']
        · obtain ⟨a1, a2, a3, a4⟩ := d h
          refine ⟨by omega, a2, a3, fun j h1 h2 => ?_⟩
          rcases Nat.lt_or_ge i j with z | z
          · exact a4 j z h2
          · have : j = i := by omega
            rw [this, hq']
  obtain ⟨v, e, c, d⟩ := key 0 (by omega)
  refine ⟨v, e, ?_, fun h => ⟨(d h).2.1, (d h).2.2.1, fun j hj => (d h).2.2.2 j (by omega) hj⟩⟩
  rw [← decide_not]
  apply decide_eq_decide.mpr
  exact c.trans ⟨fun h h' => h fun j _ b => h' j b, fun h h' => h fun j b => h' j (by omega) b⟩
theorem all_gen {F : Int → Option Bool} {n : Nat} {q : Nat → Bool} (hend : F (n : Int) = some true)
    (heq : ∀ i : Nat, i < n → F (i : Int) = if q i = true then F ((i + 1 : Nat) : Int) else some false) :
    F 0 = some (decide (∀ i, i < n → q i = true)) := by
  have key : ∀ i, i ≤ n → ∃ b, F (i : Int) = some b ∧ (b = true ↔ ∀ j, i ≤ j → j < n → q j = true) := by
    apply down
    · exact ⟨true, hend, ⟨fun _ j a b => by omega, fun _ => rfl⟩⟩
    · intro i hi ⟨b, e, c⟩
      rw [heq i hi, e]
      by_cases hq : q i = true
      · rw [if_pos hq]
        refine ⟨b, rfl, c.trans ⟨fun h j a b => ?_, fun h j a b => h j (by omega) b⟩⟩
        rcases Nat.lt_or_ge i j with z | z
        · exact h j z b
        · have : j = i := by omega
          rw [this, hq]
      · rw [if_neg hq]
        exact ⟨false, rfl, ⟨(fun h => absurd h (by decide)), fun h => absurd (h i (by omega) hi) hq⟩⟩
  obtain ⟨b, e, c⟩ := key 0 (by omega)
  have e' : F 0 = some b := e
  rw [e']
  congr 1
  rw [Bool.eq_iff_iff, decide_eq_true_iff]
  exact c.trans ⟨fun h j b => h j (by omega) b, fun h j _ b => h j b⟩
theorem all_get {l : List Int} {q : Int → Bool} : decide (∀ i, i < l.length → q (rd l (i : Int)) = true) = l.all q := by
  rw [Bool.eq_iff_iff, decide_eq_true_iff, List.all_eq_true]
  constructor
  · intro h x hx
    obtain ⟨i, hi, e⟩ := List.getElem_of_mem hx
    have := h i hi
    rwa [rd_get hi, e] at this
  · intro h i hi
    rw [rd_get hi]; exact h _ (List.getElem_mem hi)
end Go.Proofs.Ytbalkaphibnpcaa.P
end
section
namespace Go.Proofs.Ytbalkaphibnpcaa.P
open Go.RowKit Go.Proofs.YtbalkaphibnpcaaW.PrintWords Go.Proofs.YtbalkaphibnpcaaW.PrintLast Go.Proofs.YtbalkaphibnpcaaW.PrintMore
set_option linter.unusedVariables false
set_option linter.unusedSimpArgs false
theorem toInt64S_v {l : List Int} (h : l.length ≤ 17592186044416) : laws_toInt64S.d l = some l := by
  have key : ∀ i, i ≤ l.length → laws_toInt64S.l0d l (l.take i ++ List.replicate (l.length - i) 0) (i : Int) = some l := by
    apply down
    · rw [laws_toInt64S.l0d_eq, if_neg (by omega)]; simp
    · intro i hi ih
      rw [laws_toInt64S.l0d_eq, if_pos (by omega), if_pos (by omega), if_pos (by simp; omega), wrS hi h, rd_get hi]
      rw [← ih]
      congr 1
      rw [List.take_succ_eq_append_getElem hi, Int.toNat_natCast]
      apply List.ext_getElem
      · simp; omega
      · intro j h1 h2
        simp only [List.getElem_set, List.getElem_append, List.length_take, List.length_append, List.getElem_take, List.getElem_replicate, List.length_cons, List.length_nil]
        simp only [List.length_set, List.length_append, List.length_take, List.length_replicate] at h1
        by_cases c : i = j
        · subst c; rw [if_pos rfl, dif_pos (by omega), dif_neg (by omega)]; simp
        · rw [if_neg c]
          by_cases c2 : j < i
          · rw [dif_pos (by omega), dif_pos (by omega), dif_pos (by omega)]
          · rw [dif_neg (by omega), dif_neg (by omega)]
  rw [laws_toInt64S.d_eq, if_pos (by omega), if_pos (by omega)]
  have := key 0 (by omega)
  simpa using this
theorem eqInt64S_v {a b : List Int} (h : a.length ≤ 17592186044416) : laws_eqInt64S.d a b = some (decide (a = b)) := by
  rw [laws_eqInt64S.d_eq]
  by_cases hl : a.length = b.length
  · rw [if_pos (by omega)]
    have key : ∀ i, i ≤ a.length → laws_eqInt64S.l0d a b (i : Int) = some (decide (a.drop i = b.drop i)) := by
      apply down
      · rw [laws_eqInt64S.l0d_eq, if_neg (by omega)]; simp [hl]
      · intro i hi ih
        have hb : i < b.length := by omega
        rw [laws_eqInt64S.l0d_eq, if_pos (by omega), if_pos (by omega), if_pos (by omega), wrS hi h, rd_get hi, rd_get hb, ih]
        rw [List.drop_eq_getElem_cons hi, List.drop_eq_getElem_cons hb]
        by_cases c : a[i] = b[i]
        · rw [if_pos c]; simp only [List.cons.injEq, c, true_and]
        · rw [if_neg c]; simp only [List.cons.injEq, c, false_and, decide_false]
    have := key 0 (by omega)
    simpa using this
  · rw [if_neg (by omega)]
    have : a ≠ b := fun e => hl (by rw [e])
    simp [this]
theorem eqInt64S_self {a : List Int} (h : a.length ≤ 17592186044416) : laws_eqInt64S.d a a = some true := by rw [eqInt64S_v h]; simp
end Go.Proofs.Ytbalkaphibnpcaa.P
end
section
namespace Go.Proofs.Ytbalkaphibnpcaa.P
open Go.RowKit Go.Proofs.YtbalkaphibnpcaaW.PrintWords Go.Proofs.YtbalkaphibnpcaaW.PrintLast Go.Proofs.YtbalkaphibnpcaaW.PrintMore
set_option linter.unusedVariables false
set_option linter.unusedSimpArgs false
theorem wrap_nat {n : Nat} (h : n < 9223372036854775808) : IntKind.i64.wrap (n : Int) = (n : Int) := by rw [IntKind.wrap_i64]; omega
theorem bits_nat {a : Nat} (ha : a < 9223372036854775808) : (BitVec.ofInt IntKind.i64.bits (a : Int)).toNat = a := by
  show (BitVec.ofInt 64 (a : Int)).toNat = a
  rw [BitVec.ofInt_natCast, BitVec.toNat_ofNat]
  exact Nat.mod_eq_of_lt (by omega)
theorem bxor {a b : Nat} (ha : a < 9223372036854775808) (hb : b < 9223372036854775808) : Go.bits .xor .i64 (a : Int) (b : Int) = ((a ^^^ b : Nat) : Int) := by
  show IntKind.i64.wrap ((BitVec.ofInt IntKind.i64.bits (a : Int) ^^^ BitVec.ofInt IntKind.i64.bits (b : Int)).toNat : Int) = _
  rw [BitVec.toNat_xor, bits_nat ha, bits_nat hb]
  exact wrap_nat (Nat.xor_lt_two_pow (n := 63) (by omega) (by omega))
theorem band {a b : Nat} (ha : a < 9223372036854775808) (hb : b < 9223372036854775808) : Go.bits .and .i64 (a : Int) (b : Int) = ((a &&& b : Nat) : Int) := by
  show IntKind.i64.wrap ((BitVec.ofInt IntKind.i64.bits (a : Int) &&& BitVec.ofInt IntKind.i64.bits (b : Int)).toNat : Int) = _
  rw [BitVec.toNat_and, bits_nat ha, bits_nat hb]
  exact wrap_nat (Nat.and_lt_two_pow (n := 63) a (by omega))
theorem shr_nat {a c : Nat} (hc : c ≤ 64) : shr .i64 (a : Int) (c : Int) = ((a >>> c : Nat) : Int) := by
  show (a : Int) / 2 ^ min (c : Int).toNat 64 = _
  rw [Int.toNat_natCast, Nat.min_eq_left hc, Nat.shiftRight_eq_div_pow]
  simp
theorem shl_nat {a c : Nat} (hc : c ≤ 64) (h : a * 2 ^ c < 9223372036854775808) : shl .i64 (a : Int) (c : Int) = ((a * 2 ^ c : Nat) : Int) := by
  show IntKind.i64.wrap ((a : Int) * 2 ^ min (c : Int).toNat 64) = _
  rw [Int.toNat_natCast, Nat.min_eq_left hc, ← wrap_nat h]
  simp
theorem bit_test {a c : Nat} (ha : a < 9223372036854775808) (hc : c ≤ 64) : Go.bits .and .i64 (shr .i64 (a : Int) (c : Int)) 1 = if a.testBit c = true then 1 else 0 := by
  rw [shr_nat hc]
  have h1 : a >>> c < 9223372036854775808 := by
    rw [Nat.shiftRight_eq_div_pow]
    exact Nat.lt_of_le_of_lt (Nat.div_le_self _ _) ha
  have := band (a := a >>> c) (b := 1) h1 (by omega)
  rw [show ((1 : Nat) : Int) = 1 from rfl] at this
  rw [this, Nat.testBit, Nat.and_comm 1]
  rw [Nat.and_one_is_mod]
  rcases Nat.mod_two_eq_zero_or_one (a >>> c) with e | e <;> rw [e] <;> simp
theorem lt_mono {x a b : Nat} (h : x < 2 ^ a) (hab : a ≤ b) : x < 2 ^ b := Nat.lt_of_lt_of_le h (Nat.pow_le_pow_right (by omega) hab)
theorem small62 {x n : Nat} (hn : n ≤ 63) (h : x < 2 ^ n) : x < 9223372036854775808 := Nat.lt_of_lt_of_le h (Nat.le_trans (Nat.pow_le_pow_right (by omega) hn) (by decide))
/-- rows as the program holds them -/
def up (l : List Nat) : List Int := l.map fun (x : Nat) => (x : Int)
theorem up_length (l : List Nat) : (up l).length = l.length := by simp [up]
theorem up_get {l : List Nat} {i : Nat} (h : i < l.length) : rd (up l) (i : Int) = (l[i] : Int) := by
  rw [rd_get (by rw [up_length]; exact h)]; simp [up]
theorem up_set {l : List Nat} {i x : Nat} : (up l).set i (x : Int) = up (l.set i x) := by simp [up, List.map_set]
theorem up_of {l : List Int} (h : ∀ x ∈ l, 0 ≤ x) : up (l.map Int.toNat) = l := by
  unfold up
  rw [List.map_map]
  conv => rhs; rw [← List.map_id l]
  apply List.map_congr_left
  intro x hx
  show ((x.toNat : Nat) : Int) = x
  have := h x hx
  omega
/-- a walk upward that writes every place of a list -/
theorem map_gen {α R : Type} {F : List α → Int → R} {n : Nat} {g : Nat → α → α} {r : R} (Q : Nat → α → Prop) (l : List α) (hn : l.length = n)
    (hq : ∀ i, (h : i < l.length) → Q i l[i]) (hg : ∀ i x, Q i x → Q i (g i x))
    (heq : ∀ i : Nat, ∀ a : List α, (hi : i < a.length) → a.length = n → (∀ j, (h : j < a.length) → Q j a[j]) → (∀ j, i ≤ j → (h : j < a.length) → (h' : j < l.length) → a[j] = l[j]) →
      (∀ j, j < i → (h : j < a.length) → (h' : j < l.length) → a[j] = g j l[j]) → F a (i : Int) = F (a.set i (g i (a[i]'hi))) ((i + 1 : Nat) : Int))
    (hend : F (l.mapIdx g) (n : Int) = r) : F l 0 = r := by
  have key : ∀ i, i ≤ n → F (l.mapIdx fun j x => if j < i then g j x else x) (i : Int) = r := by
    apply down
    · have : (l.mapIdx fun j x => if j < n then g j x else x) = l.mapIdx g := by
        apply List.ext_getElem
        · simp
        · intro j h1 h2
          simp only [List.getElem_mapIdx]
          rw [if_pos (by simp at h1; omega)]
      rw [this]; exact hend
    · intro i hi e
      have hil : i < l.length := by omega
      rw [heq i _ (by simp; omega) (by simp; omega) ?_ ?_ ?_, ← e]
      · congr 1
        apply List.ext_getElem
        · simp
        · intro j h1 h2
          simp only [List.getElem_set, List.getElem_mapIdx]
          by_cases c : i = j
          · subst c; simp
          · rw [if_neg c]
            by_cases c2 : j < i
            · simp [c2, show j < i + 1 by omega]
            · simp [c2, show ¬ j < i + 1 by omega]
      · intro j h
        simp only [List.length_mapIdx] at h
        simp only [List.getElem_mapIdx]
        split
        · exact hg j _ (hq j h)
        · exact hq j h
      · intro j hij h h'
        simp only [List.getElem_mapIdx]
        rw [if_neg (by omega)]
      · intro j hij h h'
        simp only [List.getElem_mapIdx]
        rw [if_pos hij]
  have := key 0 (by omega)
  have e : (l.mapIdx fun j x => if j < 0 then g j x else x) = l := by
    apply List.ext_getElem
    · simp
    · intro j h1 h2; simp
  rw [e] at this
  exact this
end Go.Proofs.Ytbalkaphibnpcaa.P
end
section
namespace Go.Proofs.Ytbalkaphibnpcaa.P
open Go.RowKit Go.Proofs.YtbalkaphibnpcaaW.PrintWords Go.Proofs.YtbalkaphibnpcaaW.PrintLast Go.Proofs.YtbalkaphibnpcaaW.PrintMore
set_option linter.unusedVariables false
set_option linter.unusedSimpArgs false
theorem rL2 {l : List (List Int)} {i : Nat} (h : i < l.length) : rd_L1 l (i : Int) = l[i] := by simp [rd_L1, List.getD, h]
theorem szInt64S_n {l : List Int} {n : Int} (h0 : 0 ≤ n) (hn : n ≤ 1048576) (hm : l.length ≤ maxLen) : laws_szInt64S.f l n = some (if (l.length : Int) ≤ n then n - l.length else -1) := by
  unfold laws_szInt64S.f
  unfold maxLen at hm
  rw [wr (by omega) (by omega)]
  by_cases h : (l.length : Int) ≤ n
  · rw [if_neg (by omega), if_pos h]
  · rw [if_pos (by omega), if_neg h]
theorem szInt64SS_v {l : List (List Int)} {s : Int} (s0 : 0 ≤ s) (s1 : s ≤ 1048576) (hm : l.length ≤ maxLen) (hx : ∀ x ∈ l, x.length ≤ maxLen) : ∃ t, laws_szInt64SS.d l s = some t ∧ t ≤ 1048576 ∧ (0 ≤ t → l.length ≤ 1048576 ∧ ∀ x ∈ l, x.length ≤ 1048576) := by
  unfold maxLen at hm
  rw [laws_szInt64SS.d_eq, wr (by omega) (by omega)]
  by_cases h : (l.length : Int) ≤ s
  · rw [if_neg (by omega)]
    have key : ∀ i, i ≤ l.length → ∀ n : Int, 0 ≤ n → n ≤ 1048576 → ∃ t, laws_szInt64SS.l0d l n (i : Int) = some t ∧ t ≤ 1048576 ∧ (0 ≤ t → ∀ x ∈ l.drop i, x.length ≤ 1048576) := by
      apply down
      · intro n h0 h1
        refine ⟨n, ?_, h1, fun _ x hx => ?_⟩
        · rw [laws_szInt64SS.l0d_eq, if_neg (by omega)]
        · rw [List.drop_length] at hx; cases hx
      · intro i hi ih n h0 h1
        rw [laws_szInt64SS.l0d_eq, if_pos (by omega), if_pos (by omega), rL2 hi, szInt64S_n h0 h1 (hx _ (List.getElem_mem hi)), bind_some', wrS hi (by omega)]
        by_cases c : (l[i].length : Int) ≤ n
        · rw [if_pos c, if_neg (by omega)]
          obtain ⟨t, e, e1, ht⟩ := ih (n - l[i].length) (by omega) (by omega)
          refine ⟨t, e, e1, fun z x hx => ?_⟩
          rw [List.drop_eq_getElem_cons hi] at hx
          rcases List.mem_cons.mp hx with rfl | hx
          · omega
          · exact ht z x hx
        · rw [if_neg c, if_pos (by decide)]
          exact ⟨-1, rfl, by decide, fun z => absurd z (by decide)⟩
    obtain ⟨t, e, e1, ht⟩ := key 0 (by omega) (s - l.length) (by omega) (by omega)
    exact ⟨t, e, e1, fun z => ⟨by omega, by simpa using ht z⟩⟩
  · rw [if_pos (by omega)]
    exact ⟨-1, rfl, by decide, fun z => absurd z (by decide)⟩
theorem toInt64SS_v {l : List (List Int)} (h : l.length ≤ 1048576) (hx : ∀ x ∈ l, x.length ≤ 1048576) : laws_toInt64SS.d l = some l := by
  rw [laws_toInt64SS.d_eq, if_pos (by omega), if_pos (by omega), Int.toNat_natCast]
  refine map_gen (F := fun a i => laws_toInt64SS.l0d l a i) (n := l.length) (g := fun i _ => l.getD i []) (fun _ _ => True) _ (by simp) (fun _ _ => trivial) (fun _ _ _ => trivial) ?_ ?_
  · intro i a hi ha _ _ _
    show laws_toInt64SS.l0d l a (i : Int) = laws_toInt64SS.l0d l (a.set i (l.getD i [])) ((i + 1 : Nat) : Int)
    have hi' : i < l.length := by omega
    have := hx _ (List.getElem_mem hi')
    rw [laws_toInt64SS.l0d_eq, if_pos (by omega), if_pos (by omega), rL2 hi', toInt64S_v (by omega), bind_some', if_pos (by omega), Int.toNat_natCast, wrS hi' (by omega)]
    congr 2
    simp [List.getD, hi']
  · show laws_toInt64SS.l0d l _ (l.length : Int) = _
    rw [laws_toInt64SS.l0d_eq, if_neg (by omega)]
    congr 1
    apply List.ext_getElem
    · simp
    · intro i h1 h2
      simp at h1
      simp [List.getD, h1]
theorem eqInt64SS_self {l : List (List Int)} (h : l.length ≤ 1048576) (hx : ∀ x ∈ l, x.length ≤ 1048576) : laws_eqInt64SS.d l l = some true := by
  rw [laws_eqInt64SS.d_eq, if_pos rfl]
  have key : ∀ i, i ≤ l.length → laws_eqInt64SS.l0d l l (i : Int) = some true := by
    apply down
    · rw [laws_eqInt64SS.l0d_eq, if_neg (by omega)]
    · intro i hi e
      have := hx _ (List.getElem_mem hi)
      rw [laws_eqInt64SS.l0d_eq, if_pos (by omega), if_pos (by omega), if_pos (by omega), rL2 hi, eqInt64S_self (by omega), bind_some', if_pos rfl, wrS hi (by omega), e]
  exact key 0 (by omega)
end Go.Proofs.Ytbalkaphibnpcaa.P
end
section
namespace Go.Proofs.Ytbalkaphibnpcaa.P
open Go.RowKit Go.Proofs.YtbalkaphibnpcaaW.PrintWords Go.Proofs.YtbalkaphibnpcaaW.PrintLast Go.Proofs.YtbalkaphibnpcaaW.PrintMore
set_option linter.unusedVariables false
set_option linter.unusedSimpArgs false
theorem markInt64S_v {l : List Int} {a : Int} (h : l.length ≤ 17592186044416) (h0 : 0 ≤ a) (h1 : a ≤ 4611686018427387904) :
    laws_markInt64S.d l a = some (a + l.length, iota a l.length) := by
  have key : ∀ i, i ≤ l.length → laws_markInt64S.l0d (iota a i ++ l.drop i) (a + i) (i : Int) = some (a + l.length, iota a l.length) := by
    apply down
    · rw [laws_markInt64S.l0d_eq, if_neg (by simp [iota_length])]; simp
    · intro i hi ih
      rw [laws_markInt64S.l0d_eq, if_pos (by simp [iota_length]; omega), if_pos (by omega), wrS hi h, wr (x := a + i + 1) (by omega) (by omega), ← ih]
      congr 1
      · rw [iota_snoc, Int.toNat_natCast, List.set_append]
        simp only [iota_length, Nat.lt_irrefl, if_false, Nat.sub_self]
        rw [List.drop_eq_getElem_cons hi]
        simp only [List.set_cons_zero, List.append_assoc, List.singleton_append]
      · omega
  rw [laws_markInt64S.d_eq]
  have := key 0 (by omega)
  simpa [iota] using this
theorem heldInt64S_v {n : Nat} {a : Int} (h : n ≤ 17592186044416) (h0 : 0 ≤ a) (h1 : a ≤ 4611686018427387904) :
    laws_heldInt64S.d (iota a n) a = some (a + n) := by
  have key : ∀ i, i ≤ n → laws_heldInt64S.l0d (iota a n) (a + i) (i : Int) = some (a + n) := by
    apply down
    · rw [laws_heldInt64S.l0d_eq, if_neg (by simp [iota_length])]
    · intro i hi ih
      have hi' : i < (iota a n).length := by rw [iota_length]; exact hi
      rw [laws_heldInt64S.l0d_eq, if_pos (by omega), if_pos (by omega), rd_get hi', iota_get, if_pos rfl, wrS hi h, wr (x := a + i + 1) (by omega) (by omega), ← ih]
      congr 1; omega
  rw [laws_heldInt64S.d_eq]
  have := key 0 (by omega)
  simpa using this
end Go.Proofs.Ytbalkaphibnpcaa.P
end
section
namespace Go.Proofs.Ytbalkaphibnpcaa.P
open Go.RowKit Go.Proofs.YtbalkaphibnpcaaW.PrintWords Go.Proofs.YtbalkaphibnpcaaW.PrintLast Go.Proofs.YtbalkaphibnpcaaW.PrintMore
set_option linter.unusedVariables false
set_option linter.unusedSimpArgs false
/-- the rows that marks from a on make of these -/
def tally : List (List Int) → Int → List (List Int) × Int
  | [], a => ([], a)
  | x :: l, a => (iota a x.length :: (tally l (a + x.length)).1, (tally l (a + x.length)).2)
theorem tally_length (l : List (List Int)) : ∀ a, (tally l a).1.length = l.length := by
  induction l with
  | nil => intro a; rfl
  | cons x l ih => intro a; simp [tally, ih]
theorem tally_le {l : List (List Int)} {B : Nat} (hx : ∀ x ∈ l, x.length ≤ B) : ∀ a, a ≤ (tally l a).2 ∧ (tally l a).2 ≤ a + (l.length * B : Nat) := by
  induction l with
  | nil => intro a; simp [tally]
  | cons x l ih =>
    intro a
    have h1 := ih (fun y hy => hx y (List.mem_cons_of_mem _ hy)) (a + x.length)
    have h2 := hx x List.mem_cons_self
    have e : ((x :: l).length * B : Nat) = l.length * B + B := by rw [List.length_cons, Nat.succ_mul]
    show a ≤ (tally l (a + x.length)).2 ∧ (tally l (a + x.length)).2 ≤ a + ((x :: l).length * B : Nat)
    rw [e]
    omega
theorem tally_snoc (l : List (List Int)) (x : List Int) : ∀ a, tally (l ++ [x]) a = ((tally l a).1 ++ [iota (tally l a).2 x.length], (tally l a).2 + x.length) := by
  induction l with
  | nil => intro a; simp [tally]
  | cons y l ih => intro a; simp [tally, ih]
theorem mkL {l : List (List Int)} {i : Nat} (h : i < l.length) : rd_L1 l (i : Int) = l[i] := by simp [rd_L1, List.getD, h]
theorem markInt64SS_v {l : List (List Int)} {a : Int} (h : l.length ≤ 1048576) (hx : ∀ x ∈ l, x.length ≤ 1048576) (h0 : 0 ≤ a) (h1 : a ≤ 1000000000000000) :
    laws_markInt64SS.d l a = some ((tally l a).2, (tally l a).1) := by
  have key : ∀ i, i ≤ l.length → laws_markInt64SS.l0d ((tally (l.take i) a).1 ++ l.drop i) (tally (l.take i) a).2 (i : Int) = some ((tally l a).2, (tally l a).1) := by
    apply down
    · rw [laws_markInt64SS.l0d_eq, if_neg (by simp [tally_length]), List.take_length, List.drop_length, List.append_nil]
    · intro i hi ih
      have hlt : (tally (l.take i) a).1.length = i := by rw [tally_length, List.length_take]; omega
      have hlen : ((tally (l.take i) a).1 ++ l.drop i).length = l.length := by rw [List.length_append, hlt, List.length_drop]; omega
      have e1 : rd_L1 ((tally (l.take i) a).1 ++ l.drop i) (i : Int) = l[i] := by
        rw [mkL (by omega), List.getElem_append_right (by omega)]
        simp [hlt]
      have b1 := tally_le (l := l.take i) (B := 1048576) (fun x hx' => hx x (List.mem_of_mem_take hx')) a
      have b2 : (l.take i).length * 1048576 ≤ 1048576 * 1048576 := Nat.mul_le_mul_right _ (by rw [List.length_take]; omega)
      have b3 := hx _ (List.getElem_mem hi)
      rw [laws_markInt64SS.l0d_eq, if_pos (by omega), if_pos (by omega), e1, markInt64S_v (by omega) (by omega) (by omega), bind_some', wrS hi (by omega), ← ih, List.take_succ_eq_append_getElem hi, tally_snoc]
      congr 1
      rw [Int.toNat_natCast, List.set_append_right _ _ (by omega), hlt, Nat.sub_self, List.drop_eq_getElem_cons hi, List.set_cons_zero, List.append_assoc]
      rfl
  rw [laws_markInt64SS.d_eq]
  have := key 0 (by omega)
  simpa [tally] using this
theorem tally_big {l : List (List Int)} (h : l.length ≤ 1048576) (hx : ∀ x ∈ l, x.length ≤ 1048576) (a : Int) : a ≤ (tally l a).2 ∧ (tally l a).2 ≤ a + 1099511627776 := by
  have b1 := tally_le (l := l) (B := 1048576) hx a
  have b2 : l.length * 1048576 ≤ 1048576 * 1048576 := Nat.mul_le_mul_right _ h
  omega
end Go.Proofs.Ytbalkaphibnpcaa.P
end
section
namespace Go.Proofs.Ytbalkaphibnpcaa.P
open Go.RowKit Go.Proofs.YtbalkaphibnpcaaW.PrintWords Go.Proofs.YtbalkaphibnpcaaW.PrintLast Go.Proofs.YtbalkaphibnpcaaW.PrintMore
set_option linter.unusedVariables false
set_option linter.unusedSimpArgs false
theorem tally_get (l : List (List Int)) : ∀ (a : Int) (i : Nat) (h : i < l.length), (tally l a).1[i]'(by rw [tally_length]; exact h) = iota (tally (l.take i) a).2 (l[i].length) := by
  induction l with
  | nil => intro a i h; simp at h
  | cons x l ih =>
    intro a i h
    cases i with
    | zero => simp [tally]
    | succ i =>
      simp only [tally, List.getElem_cons_succ, List.take_succ_cons]
      exact ih _ i (by simpa using h)
theorem heldInt64SS_v {l : List (List Int)} {a : Int} (h : l.length ≤ 1048576) (hx : ∀ x ∈ l, x.length ≤ 1048576) (h0 : 0 ≤ a) (h1 : a ≤ 1000000000000000) :
    laws_heldInt64SS.d (tally l a).1 a = some (tally l a).2 := by
  have key : ∀ i, i ≤ l.length → laws_heldInt64SS.l0d (tally l a).1 (tally (l.take i) a).2 (i : Int) = some (tally l a).2 := by
    apply down
    · rw [laws_heldInt64SS.l0d_eq, if_neg (by rw [tally_length]; omega), List.take_length]
    · intro i hi ih
      have b1 := tally_le (l := l.take i) (B := 1048576) (fun x hx' => hx x (List.mem_of_mem_take hx')) a
      have b2 : (l.take i).length * 1048576 ≤ 1048576 * 1048576 := Nat.mul_le_mul_right _ (by rw [List.length_take]; omega)
      have b3 := hx _ (List.getElem_mem hi)
      rw [laws_heldInt64SS.l0d_eq, if_pos (by rw [tally_length]; omega), if_pos (by omega), mkL (by rw [tally_length]; exact hi), tally_get l a i hi, heldInt64S_v (by omega) (by omega) (by omega), bind_some', if_neg (by omega), wrS hi (by omega), ← ih, List.take_succ_eq_append_getElem hi, tally_snoc]
  rw [laws_heldInt64SS.d_eq]
  have := key 0 (by omega)
  simpa [tally] using this
end Go.Proofs.Ytbalkaphibnpcaa.P
end
section
namespace Go.Proofs.Ytbalkaphibnpcaa.P
open Go.RowKit Go.Proofs.YtbalkaphibnpcaaW.PrintWords Go.Proofs.YtbalkaphibnpcaaW.PrintLast Go.Proofs.YtbalkaphibnpcaaW.PrintMore
set_option linter.unusedVariables false
set_option linter.unusedSimpArgs false
theorem up_getD {ln : List Nat} {i : Nat} (h : i < ln.length) : rd (up ln) (i : Int) = ((ln.getD i 0 : Nat) : Int) := by
  rw [up_get h]; simp [List.getD, h]
theorem getD_mem {ln : List Nat} {i : Nat} (h : i < ln.length) : ln.getD i 0 ∈ ln := by
  have : ln.getD i 0 = ln[i] := by simp [List.getD, h]
  rw [this]; exact List.getElem_mem h
/-- a number of m places -/
def elemB (m x : Int) : Bool := decide (0 ≤ x) && decide (x < 2 ^ m.toNat)
theorem elems_up {N : Nat} {l : List Int} (h : l.all (elemB (N : Int)) = true) : ∃ ln : List Nat, l = up ln ∧ ∀ x ∈ ln, x < 2 ^ N := by
  rw [List.all_eq_true] at h
  have he : ∀ x ∈ l, 0 ≤ x ∧ x < 2 ^ N := fun x hx => by
    have := h x hx
    unfold elemB at this
    simpa using this
  refine ⟨l.map Int.toNat, (up_of fun x hx => (he x hx).1).symm, fun x hx => ?_⟩
  obtain ⟨y, hy, rfl⟩ := List.mem_map.mp hx
  have := he y hy
  have e : ((2 ^ N : Nat) : Int) = (2 : Int) ^ N := by simp
  omega
theorem up_rangeN (n : Nat) (f : Nat → Nat) : (List.range n).map (fun k => ((f k : Nat) : Int)) = up ((List.range n).map f) := by
  unfold up; rw [List.map_map]; rfl
end Go.Proofs.Ytbalkaphibnpcaa.P
end
section
namespace Go.Proofs.Ytbalkaphibnpcaa.P
open Go.RowKit Go.Proofs.YtbalkaphibnpcaaW.PrintWords Go.Proofs.YtbalkaphibnpcaaW.PrintLast Go.Proofs.YtbalkaphibnpcaaW.PrintMore
set_option linter.unusedVariables false
set_option linter.unusedSimpArgs false
/-- the irreducible polynomials of degree 1 .. 5, as numbers -/
def irrs : List Int := [2, 3, 7, 11, 13, 19, 25, 31, 37, 41, 47, 55, 59, 61]
def irrB (p : Int) : Bool := irrs.contains p
/-- the fields: degree and polynomial -/
def fields14 : List (Int × Int) := [(1, 2), (1, 3), (2, 7), (3, 11), (3, 13), (4, 19), (4, 25), (4, 31), (5, 37), (5, 41), (5, 47), (5, 55), (5, 59), (5, 61)]
def validB (m p : Int) : Bool := fields14.contains (m, p)
theorem of_range {P : Int → Prop} (n : Nat) (lo : Int) (h : ∀ i, i < n → P (lo + i)) : ∀ x, lo ≤ x → x < lo + n → P x := by
  intro x h0 h1
  have := h (x - lo).toNat (by omega)
  rwa [show lo + ((x - lo).toNat : Int) = x by omega] at this
theorem i_irr_small : ∀ i, i < 62 → impl_IsIrreducible.f 80 (2 + (i : Nat)) = some (irrB (2 + (i : Nat))) := by decide +kernel
theorem irrB_big {p : Int} (h : p < 2 ∨ 64 ≤ p) : irrB p = false := by
  have : p ∉ irrs := by
    have hb : ∀ q ∈ irrs, 2 ≤ q ∧ q < 64 := by decide +kernel
    intro hp
    have := hb p hp
    omega
  unfold irrB
  rw [List.contains_eq_mem, decide_eq_false this]
theorem i_IsIrreducible_v (p : Int) : impl_IsIrreducible.d p = some (irrB p) := by
  by_cases h : p < 2
  · rw [impl_IsIrreducible.d_eq, if_pos h, impl_IsIrreducible.j0d_eq, if_pos rfl, irrB_big (.inl h)]
  · by_cases h2 : p < 64
    · have := of_range (P := fun p => impl_IsIrreducible.f 80 p = some (irrB p)) 62 2 i_irr_small p (by omega) (by omega)
      exact ((impl_IsIrreducible.lim p).2 _).mpr ⟨_, this⟩
    · rw [impl_IsIrreducible.d_eq, if_neg h, impl_IsIrreducible.j0d_eq, if_pos (by simp; omega), irrB_big (.inr (by omega))]
theorem irrB_mem {p : Int} (h : irrB p = true) : p ∈ irrs := by simpa [irrB] using h
theorem i_deg_irr {p : Int} (h : irrB p = true) : ∀ m, ((m, p) ∈ fields14) = (impl_degreeOf.d p = some m) := by
  have h := irrB_mem h
  have key : ∀ p ∈ irrs, ∃ m, impl_degreeOf.f 80 p = some m ∧ (m, p) ∈ fields14 ∧ ∀ m', (m', p) ∈ fields14 → m' = m := by
    have : ∀ p ∈ irrs, ∃ m ∈ [1, 2, 3, 4, 5], impl_degreeOf.f 80 p = some m ∧ (m, p) ∈ fields14 ∧ ∀ f ∈ fields14, f.2 = p → f.1 = m := by decide +kernel
    intro p hp
    obtain ⟨m, _, a, b, c⟩ := this p hp
    exact ⟨m, a, b, fun m' h' => c (m', p) h' rfl⟩
  intro m
  obtain ⟨m0, a, b, c⟩ := key p h
  have e : impl_degreeOf.d p = some m0 := ((impl_degreeOf.lim p).2 _).mpr ⟨_, a⟩
  rw [e]
  apply propext
  exact ⟨fun h => by rw [c m h], fun h => by cases h; exact b⟩
theorem deg_some {p : Int} (h : irrB p = true) : ∃ m, (m, p) ∈ fields14 := by
  have : ∀ p ∈ irrs, ∃ m ∈ [1, 2, 3, 4, 5], ((m, p) : Int × Int) ∈ fields14 := by decide +kernel
  obtain ⟨m, _, hm⟩ := this p (irrB_mem h)
  exact ⟨m, hm⟩
theorem fields_facts : ∀ f ∈ fields14, (1 ≤ f.1 ∧ f.1 ≤ 5) ∧ irrB f.2 = true := by decide +kernel
theorem valid_facts {m p : Int} (h : validB m p = true) : 1 ≤ m ∧ m ≤ 5 ∧ irrB p = true := by
  have h' : (m, p) ∈ fields14 := by simpa [validB] using h
  have := fields_facts _ h'
  exact ⟨this.1.1, this.1.2, this.2⟩
theorem validB_eq {m p : Int} : validB m p = decide ((m, p) ∈ fields14) := by simp [validB, List.contains_eq_mem]
theorem i_ValidField_v (m p : Int) : impl_ValidField.d m p = some (validB m p) := by
  rw [impl_ValidField.d_eq]
  unfold impl_within.f
  by_cases h1 : m ≥ 1
  · rw [if_pos h1, bind_some']
    by_cases h5 : m ≤ 5
    · rw [if_pos (by simpa using h5), i_IsIrreducible_v, bind_some']
      by_cases hi : irrB p = true
      · rw [if_pos hi]
        obtain ⟨m0, hm0⟩ := deg_some hi
        rw [i_deg_irr hi] at hm0
        rw [hm0, bind_some', validB_eq]
        have := i_deg_irr hi m
        rw [hm0] at this
        congr 1
        simp only [this, Option.some.injEq]
        by_cases e : m0 = m
        · simp [e]
        · simp [e]
      · rw [if_neg hi]
        congr 1
        have : ¬ validB m p = true := fun h => hi (valid_facts h).2.2
        exact (Bool.eq_false_iff.mpr this).symm
    · rw [if_neg (by simpa using h5)]
      have : ¬ validB m p = true := fun h => h5 (valid_facts h).2.1
      rw [Bool.eq_false_iff.mpr this]
  · rw [if_neg h1, bind_some', if_neg (by decide)]
    have : ¬ validB m p = true := fun h => h1 (valid_facts h).1
    rw [Bool.eq_false_iff.mpr this]
end Go.Proofs.Ytbalkaphibnpcaa.P
end
section
namespace Go.Proofs.Ytbalkaphibnpcaa.P
open Go.RowKit Go.Proofs.YtbalkaphibnpcaaW.PrintWords Go.Proofs.YtbalkaphibnpcaaW.PrintLast Go.Proofs.YtbalkaphibnpcaaW.PrintMore
set_option linter.unusedVariables false
set_option linter.unusedSimpArgs false
theorem s_irr_small : ∀ i, i < 62 → spec_IsIrreducible.f 80 (2 + (i : Nat)) = some (irrB (2 + (i : Nat))) := by decide +kernel
theorem s_IsIrreducible_v (p : Int) : spec_IsIrreducible.d p = some (irrB p) := by
  by_cases h : p < 64
  · by_cases h2 : 2 ≤ p
    · have := of_range (P := fun p => spec_IsIrreducible.f 80 p = some (irrB p)) 62 2 s_irr_small p (by omega) (by omega)
      exact ((spec_IsIrreducible.lim p).2 _).mpr ⟨_, this⟩
    · by_cases h3 : p = 1
      · subst h3; exact ((spec_IsIrreducible.lim 1).2 _).mpr ⟨80, by decide +kernel⟩
      · rw [spec_IsIrreducible.d_eq, if_neg (by omega), irrB_big (.inl (by omega))]
  · rw [spec_IsIrreducible.d_eq, if_pos (by omega), if_neg h, irrB_big (.inr (by omega))]
theorem s_deg_irr {p : Int} (h : irrB p = true) : ∀ m, ((m, p) ∈ fields14) = (spec_l01Degree.d p = some m) := by
  have h := irrB_mem h
  have key : ∀ p ∈ irrs, ∃ m, spec_l01Degree.f 80 p = some m ∧ (m, p) ∈ fields14 ∧ ∀ m', (m', p) ∈ fields14 → m' = m := by
    have : ∀ p ∈ irrs, ∃ m ∈ [1, 2, 3, 4, 5], spec_l01Degree.f 80 p = some m ∧ (m, p) ∈ fields14 ∧ ∀ f ∈ fields14, f.2 = p → f.1 = m := by decide +kernel
    intro p hp
    obtain ⟨m, _, a, b, c⟩ := this p hp
    exact ⟨m, a, b, fun m' h' => c (m', p) h' rfl⟩
  intro m
  obtain ⟨m0, a, b, c⟩ := key p h
  have e : spec_l01Degree.d p = some m0 := ((spec_l01Degree.lim p).2 _).mpr ⟨_, a⟩
  rw [e]
  apply propext
  exact ⟨fun h => by rw [c m h], fun h => by cases h; exact b⟩
theorem s_l01Ok_v (m p : Int) : spec_l01Ok.d m p = some (validB m p) := by
  rw [spec_l01Ok.d_eq]
  unfold spec_l00In.f
  by_cases h1 : m ≥ 1
  · rw [if_pos h1, bind_some']
    by_cases h5 : m ≤ 5
    · rw [if_pos (by simpa using h5), s_IsIrreducible_v, bind_some']
      by_cases hi : irrB p = true
      · rw [if_pos hi]
        obtain ⟨m0, hm0⟩ := deg_some hi
        rw [s_deg_irr hi] at hm0
        rw [hm0, bind_some', validB_eq]
        have := s_deg_irr hi m
        rw [hm0] at this
        congr 1
        simp only [this, Option.some.injEq]
        by_cases e : m0 = m
        · simp [e]
        · simp [e]
      · rw [if_neg hi]
        congr 1
        have : ¬ validB m p = true := fun h => hi (valid_facts h).2.2
        exact (Bool.eq_false_iff.mpr this).symm
    · rw [if_neg (by simpa using h5)]
      have : ¬ validB m p = true := fun h => h5 (valid_facts h).2.1
      rw [Bool.eq_false_iff.mpr this]
  · rw [if_neg h1, bind_some', if_neg (by decide)]
    have : ¬ validB m p = true := fun h => h1 (valid_facts h).1
    rw [Bool.eq_false_iff.mpr this]
end Go.Proofs.Ytbalkaphibnpcaa.P
end
section
namespace Go.Proofs.Ytbalkaphibnpcaa.P
open Go.RowKit Go.Proofs.YtbalkaphibnpcaaW.PrintWords Go.Proofs.YtbalkaphibnpcaaW.PrintLast Go.Proofs.YtbalkaphibnpcaaW.PrintMore
set_option linter.unusedVariables false
set_option linter.unusedSimpArgs false
theorem m_cases {m p : Int} (h : validB m p = true) : m = 1 ∨ m = 2 ∨ m = 3 ∨ m = 4 ∨ m = 5 := by
  have := valid_facts h; omega
theorem i_count_v {m p : Int} (h : validB m p = true) (q : Int) : impl_Field_count.f m q = some (2 ^ m.toNat) := by
  rcases m_cases h with rfl | rfl | rfl | rfl | rfl <;> rfl
theorem s_l01Size_v {m p : Int} (h : validB m p = true) (q : Int) : spec_l01Size.f m q = some (2 ^ m.toNat) := by
  rcases m_cases h with rfl | rfl | rfl | rfl | rfl <;> rfl
theorem pow_bound {m p : Int} (h : validB m p = true) : (2 : Int) ≤ 2 ^ m.toNat ∧ (2 : Int) ^ m.toNat ≤ 32 := by
  rcases m_cases h with rfl | rfl | rfl | rfl | rfl <;> decide
theorem i_has_1_v {m p : Int} (h : validB m p = true) (q x : Int) : impl_Field_has_1.f x m q = some (!(elemB m x)) := by
  unfold impl_Field_has_1.f impl_within.f elemB
  have hb := pow_bound h
  rw [i_count_v h, bind_some', wr (by omega) (by omega)]
  by_cases c : 0 ≤ x
  · rw [if_pos (by omega), bind_some']
    simp only [decide_eq_true c, Bool.true_and]
    congr 2
    apply decide_eq_decide.mpr; omega
  · rw [if_neg (by omega), bind_some']
    simp only [decide_eq_false c, Bool.false_and]
theorem i_has_v {m p : Int} (h : validB m p = true) (q : Int) {l : List Int} (hl : l.length ≤ 17592186044416) : impl_Field_has.d m q l = some (l.all (elemB m)) := by
  rw [impl_Field_has.d_eq, slices_ContainsFunc_int64_int64_AT_impl_Field_has_1.d_eq, slices_IndexFunc_int64_int64_AT_impl_Field_has_1.d_eq]
  obtain ⟨v, e, c, _⟩ := index_gen (F := fun i => slices_IndexFunc_int64_int64_AT_impl_Field_has_1.l0d l (l.length : Int) i m q) (n := l.length) (q := fun i => !(elemB m (rd l (i : Int))))
    (by show slices_IndexFunc_int64_int64_AT_impl_Field_has_1.l0d l (l.length : Int) (l.length : Int) m q = _
        rw [slices_IndexFunc_int64_int64_AT_impl_Field_has_1.l0d_eq, if_neg (by omega)])
    (by intro i hi
        show slices_IndexFunc_int64_int64_AT_impl_Field_has_1.l0d l (l.length : Int) (i : Int) m q = _
        rw [slices_IndexFunc_int64_int64_AT_impl_Field_has_1.l0d_eq, if_pos (by omega), if_pos (by omega), if_pos (by omega), i_has_1_v h, bind_some', wrS hi hl])
  have e' : slices_IndexFunc_int64_int64_AT_impl_Field_has_1.l0d l (l.length : Int) 0 m q = some v := e
  rw [e', bind_some', bind_some', c, Bool.not_not]
  congr 1
  rw [← all_get]
  apply decide_eq_decide.mpr
  simp only [Bool.not_eq_false']
end Go.Proofs.Ytbalkaphibnpcaa.P
end
section
namespace Go.Proofs.Ytbalkaphibnpcaa.P
open Go.RowKit Go.Proofs.YtbalkaphibnpcaaW.PrintWords Go.Proofs.YtbalkaphibnpcaaW.PrintLast Go.Proofs.YtbalkaphibnpcaaW.PrintMore
set_option linter.unusedVariables false
set_option linter.unusedSimpArgs false
theorem s_l04Elements_v {m p : Int} (h : validB m p = true) (q : Int) {l : List Int} (hl : l.length ≤ 17592186044416) : spec_l04Elements.d m q l = some (l.all (elemB m)) := by
  have hb := pow_bound h
  rw [spec_l04Elements.d_eq]
  have := all_gen (F := fun i => spec_l04Elements.l0d l i m q) (n := l.length) (q := fun i => elemB m (rd l (i : Int)))
    (by show spec_l04Elements.l0d l (l.length : Int) m q = _
        rw [spec_l04Elements.l0d_eq, if_neg (by omega)])
    (by intro i hi
        show spec_l04Elements.l0d l (i : Int) m q = _
        have e : spec_l00In.f (rd l (i : Int)) 0 (2 ^ m.toNat - 1) = some (elemB m (rd l (i : Int))) := by
          unfold spec_l00In.f elemB
          by_cases c : rd l (i : Int) ≥ 0
          · rw [if_pos c]
            simp only [decide_eq_true (show 0 ≤ rd l (i : Int) from c), Bool.true_and]
            congr 1
            apply decide_eq_decide.mpr; omega
          · rw [if_neg c]
            simp only [decide_eq_false (show ¬ 0 ≤ rd l (i : Int) from c), Bool.false_and]
        rw [spec_l04Elements.l0d_eq, if_pos (by omega), if_pos (by omega), s_l01Size_v h, bind_some', wr (by omega) (by omega), e, bind_some', wrS hi hl])
  have this' : spec_l04Elements.l0d l 0 m q = some (decide (∀ i, i < l.length → elemB m (rd l (i : Int)) = true)) := this
  rw [this']
  congr 1
  exact all_get
end Go.Proofs.Ytbalkaphibnpcaa.P
end
section
namespace Go.Proofs.Ytbalkaphibnpcaa.P
open Go.RowKit Go.Proofs.YtbalkaphibnpcaaW.PrintWords Go.Proofs.YtbalkaphibnpcaaW.PrintLast Go.Proofs.YtbalkaphibnpcaaW.PrintMore
set_option linter.unusedVariables false
set_option linter.unusedSimpArgs false
/-- the product of polynomials a and b, of b the places below n -/
def clm (a b : Nat) : Nat → Nat
  | 0 => 0
  | i + 1 => clm a b i ^^^ (if b.testBit i = true then a * 2 ^ i else 0)
/-- the rest of r by p, a polynomial of degree m: the places m + n - 1 .. m are cleared -/
def red (m p : Nat) (r : Nat) : Nat → Nat
  | 0 => r
  | i + 1 => red m p (if r.testBit (m + i) = true then r ^^^ (p * 2 ^ i) else r) i
/-- the product in the field -/
def fmul (m p a b : Nat) : Nat := red m p (clm a b m) m
theorem mul_pow_lt {a m i : Nat} (ha : a < 2 ^ m) : a * 2 ^ i < 2 ^ (m + i) := by
  rw [Nat.pow_add]; exact Nat.mul_lt_mul_of_pos_right ha (Nat.two_pow_pos i)
theorem clm_lt {a m : Nat} (ha : a < 2 ^ m) (b : Nat) : ∀ n, clm a b n < 2 ^ (m + n)
  | 0 => Nat.two_pow_pos _
  | n + 1 => by
    refine Nat.xor_lt_two_pow (lt_mono (clm_lt ha b n) (by omega)) ?_
    split
    · exact lt_mono (mul_pow_lt ha) (by omega)
    · exact Nat.two_pow_pos _
theorem clm_stop (a : Nat) {b i : Nat} (h : b < 2 ^ i) : ∀ n, clm a b (i + n) = clm a b i
  | 0 => rfl
  | n + 1 => by
    rw [← Nat.add_assoc, clm, clm_stop a h n, Nat.testBit_lt_two_pow (lt_mono h (by omega))]
    simp
theorem lt_of_bit {r k : Nat} (h : r < 2 ^ (k + 1)) (hb : r.testBit k = false) : r < 2 ^ k := by
  apply Nat.lt_pow_two_of_testBit
  intro i hi
  rcases Nat.lt_or_ge i (k + 1) with z | z
  · rw [show i = k by omega]; exact hb
  · exact Nat.testBit_lt_two_pow (lt_mono h z)
theorem red_step_lt {m p r i : Nat} (hp : p < 2 ^ (m + 1)) (hpb : p.testBit m = true) (hr : r < 2 ^ (m + (i + 1))) : (if r.testBit (m + i) = true then r ^^^ (p * 2 ^ i) else r) < 2 ^ (m + i) := by
  have h1 : p * 2 ^ i < 2 ^ (m + i + 1) := by
    have := mul_pow_lt (i := i) hp
    exact lt_mono this (by omega)
  split
  · rename_i c
    refine lt_of_bit (Nat.xor_lt_two_pow hr h1) ?_
    rw [Nat.testBit_xor, c, Nat.testBit_mul_two_pow]
    simp [hpb]
  · rename_i c
    exact lt_of_bit hr (Bool.eq_false_iff.mpr c)
theorem red_lt {m p : Nat} (hp : p < 2 ^ (m + 1)) (hpb : p.testBit m = true) : ∀ i r, r < 2 ^ (m + i) → red m p r i < 2 ^ m
  | 0, r, h => h
  | i + 1, r, h => by rw [red]; exact red_lt hp hpb i _ (red_step_lt hp hpb h)
theorem s_half {r : Nat} (h : r < 9223372036854775808) : wrap64 (Int.tdiv (r : Int) 2) = ((r / 2 : Nat) : Int) := by
  have e : Int.tdiv (r : Int) 2 = ((r / 2 : Nat) : Int) := (Int.ofNat_tdiv r 2).symm
  rw [e, wr (by omega) (by omega)]
theorem half_bit {r k : Nat} : (r / 2).testBit k = r.testBit (k + 1) := Nat.testBit_div_two ..
theorem half_lt {r k : Nat} (h : r < 2 ^ (k + 1)) : r / 2 < 2 ^ k := by rw [Nat.pow_succ] at h; omega
theorem bit_pos {r k : Nat} (h : r.testBit k = true) : 0 < r := by
  rcases Nat.eq_zero_or_pos r with rfl | z
  · rw [Nat.zero_testBit] at h; cases h
  · exact z
theorem spec_l01Degree.some_v : ∀ (k r : Nat) (o : Int), k ≤ 62 → r < 2 ^ (k + 1) → r.testBit k = true → -1 ≤ o → o + k ≤ 1000 → spec_l01Degree.l0d (r : Int) o = some (o + k + 1)
  | 0, r, o, hk, h, hb, h0, h1 => by
    have hr : r = 1 := by have := bit_pos hb; omega
    subst hr
    rw [spec_l01Degree.l0d_eq, if_pos (by omega), wr (x := o + 1) (by omega) (by omega), show wrap64 (Int.tdiv ((1 : Nat) : Int) 2) = ((1 / 2 : Nat) : Int) by (exact s_half (small62 (by omega) h)), spec_l01Degree.l0d_eq, if_neg (by decide)]; simp
  | k + 1, r, o, hk, h, hb, h0, h1 => by
    have := bit_pos hb
    rw [spec_l01Degree.l0d_eq, if_pos (by omega), wr (x := o + 1) (by omega) (by omega), show wrap64 (Int.tdiv (r : Int) 2) = ((r / 2 : Nat) : Int) by (exact s_half (small62 (by omega) h)), spec_l01Degree.some_v k (r / 2) (o + 1) (by omega) (half_lt h) (by rw [half_bit]; exact hb) (by omega) (by omega)]
    congr 1; omega
theorem spec_l01Degree.lt_v : ∀ (k r : Nat) (o : Int), k ≤ 62 → r < 2 ^ k → -1 ≤ o → o + k ≤ 1000 → ∃ d, spec_l01Degree.l0d (r : Int) o = some d ∧ d ≤ o + k
  | 0, r, o, hk, h, h0, h1 => ⟨o, by rw [spec_l01Degree.l0d_eq, if_neg (by have hz : r = 0 := (by simpa using h); omega)], by omega⟩
  | k + 1, r, o, hk, h, h0, h1 => by
    by_cases c : 0 < r
    · obtain ⟨d, e, hd⟩ := spec_l01Degree.lt_v k (r / 2) (o + 1) (by omega) (half_lt h) (by omega) (by omega)
      have hr62 := small62 (n := k + 1) (by omega) h
      exact ⟨d, by rw [spec_l01Degree.l0d_eq, if_pos (by omega), wr (x := o + 1) (by omega) (by omega), show wrap64 (Int.tdiv (r : Int) 2) = ((r / 2 : Nat) : Int) by (exact s_half (small62 (by omega) h)), e], by omega⟩
    · exact ⟨o, by rw [spec_l01Degree.l0d_eq, if_neg (by omega)], by omega⟩
theorem impl_degreeOf.some_v : ∀ (k r : Nat) (o : Int), k ≤ 62 → r < 2 ^ (k + 1) → r.testBit k = true → -1 ≤ o → o + k ≤ 1000 → impl_degreeOf.l0d (r : Int) o = some (o + k + 1)
  | 0, r, o, hk, h, hb, h0, h1 => by
    have hr : r = 1 := by have := bit_pos hb; omega
    subst hr
    rw [impl_degreeOf.l0d_eq, if_pos (by omega), wr (x := o + 1) (by omega) (by omega), show (((1 : Nat) : Int) / 2) = ((1 / 2 : Nat) : Int) by omega, impl_degreeOf.l0d_eq, if_neg (by decide)]; simp
  | k + 1, r, o, hk, h, hb, h0, h1 => by
    have := bit_pos hb
    rw [impl_degreeOf.l0d_eq, if_pos (by omega), wr (x := o + 1) (by omega) (by omega), show ((r : Int) / 2) = ((r / 2 : Nat) : Int) by omega, impl_degreeOf.some_v k (r / 2) (o + 1) (by omega) (half_lt h) (by rw [half_bit]; exact hb) (by omega) (by omega)]
    congr 1; omega
theorem impl_degreeOf.lt_v : ∀ (k r : Nat) (o : Int), k ≤ 62 → r < 2 ^ k → -1 ≤ o → o + k ≤ 1000 → ∃ d, impl_degreeOf.l0d (r : Int) o = some d ∧ d ≤ o + k
  | 0, r, o, hk, h, h0, h1 => ⟨o, by rw [impl_degreeOf.l0d_eq, if_neg (by have hz : r = 0 := (by simpa using h); omega)], by omega⟩
  | k + 1, r, o, hk, h, h0, h1 => by
    by_cases c : 0 < r
    · obtain ⟨d, e, hd⟩ := impl_degreeOf.lt_v k (r / 2) (o + 1) (by omega) (half_lt h) (by omega) (by omega)
      have hr62 := small62 (n := k + 1) (by omega) h
      exact ⟨d, by rw [impl_degreeOf.l0d_eq, if_pos (by omega), wr (x := o + 1) (by omega) (by omega), show ((r : Int) / 2) = ((r / 2 : Nat) : Int) by omega, e], by omega⟩
    · exact ⟨o, by rw [impl_degreeOf.l0d_eq, if_neg (by omega)], by omega⟩
theorem spec_l01Rest.loop_v {m p : Nat} (hm : m ≤ 5) (hp : p < 2 ^ (m + 1)) (hpb : p.testBit m = true) : ∀ i r : Nat, i ≤ 5 → r < 2 ^ (m + i) → spec_l01Rest.l0d (r : Int) (p : Int) (m : Int) = some ((red m p r i : Nat) : Int)
  | 0, r, hi, h => by
    obtain ⟨d, e, hd⟩ := spec_l01Degree.lt_v m r (-1) (by omega) h (by omega) (by omega)
    rw [spec_l01Rest.l0d_eq, spec_l01Degree.d_eq, e, bind_some', if_neg (by omega)]; rfl
  | i + 1, r, hi, h => by
    have st := red_step_lt (i := i) hp hpb h
    rw [red]
    by_cases c : r.testBit (m + i) = true
    · rw [if_pos c] at st ⊢
      have e : spec_l01Degree.d (r : Int) = some ((m + i : Nat) : Int) := by
        rw [spec_l01Degree.d_eq, spec_l01Degree.some_v (m + i) r (-1) (by omega) h c (by omega) (by omega)]; congr 1; omega
      have h1 : p * 2 ^ i < 2 ^ 12 := lt_mono (mul_pow_lt hp) (by omega)
      have h2 : r < 2 ^ 12 := lt_mono h (by omega)
      rw [spec_l01Rest.l0d_eq, e, bind_some', if_pos (by omega), bind_some', show (IntKind.u64.wrap (wrap64 (((m + i : Nat) : Int) - (m : Int)))) = (i : Int) by rw [wr (by omega) (by omega), u64_id (by omega) (by omega)]; omega, if_pos (by omega), shl_nat (by omega) (by omega), bxor (by omega) (by omega)]
      exact spec_l01Rest.loop_v hm hp hpb i _ (by omega) st
    · rw [if_neg c] at st ⊢
      exact spec_l01Rest.loop_v hm hp hpb i r (by omega) st
theorem spec_l01Rest.v {m p : Nat} (hm : m ≤ 5) (hp : p < 2 ^ (m + 1)) (hpb : p.testBit m = true) {r : Nat} (h : r < 2 ^ (m + m)) : spec_l01Rest.d (r : Int) (p : Int) = some ((red m p r m : Nat) : Int) := by
  rw [spec_l01Rest.d_eq, spec_l01Degree.d_eq, spec_l01Degree.some_v m p (-1) (by omega) hp hpb (by omega) (by omega), bind_some', show (-1 + (m : Int) + 1) = m by omega]
  exact spec_l01Rest.loop_v hm hp hpb m r (by omega) h
theorem impl_restOf.loop_v {m p : Nat} (hm : m ≤ 5) (hp : p < 2 ^ (m + 1)) (hpb : p.testBit m = true) : ∀ i r : Nat, i ≤ 5 → r < 2 ^ (m + i) → impl_restOf.l0d (r : Int) (p : Int) (m : Int) = some ((red m p r i : Nat) : Int)
  | 0, r, hi, h => by
    obtain ⟨d, e, hd⟩ := impl_degreeOf.lt_v m r (-1) (by omega) h (by omega) (by omega)
    rw [impl_restOf.l0d_eq, impl_degreeOf.d_eq, e, bind_some', if_neg (by omega)]; rfl
  | i + 1, r, hi, h => by
    have st := red_step_lt (i := i) hp hpb h
    rw [red]
    by_cases c : r.testBit (m + i) = true
    · rw [if_pos c] at st ⊢
      have e : impl_degreeOf.d (r : Int) = some ((m + i : Nat) : Int) := by
        rw [impl_degreeOf.d_eq, impl_degreeOf.some_v (m + i) r (-1) (by omega) h c (by omega) (by omega)]; congr 1; omega
      have h1 : p * 2 ^ i < 2 ^ 12 := lt_mono (mul_pow_lt hp) (by omega)
      have h2 : r < 2 ^ 12 := lt_mono h (by omega)
      rw [impl_restOf.l0d_eq, e, bind_some', if_pos (by omega), bind_some', show wrap64 (((m + i : Nat) : Int) - (m : Int)) = (i : Int) by rw [wr (by omega) (by omega)]; omega, if_pos (by omega), shl_nat (by omega) (by omega), bxor (by omega) (by omega)]
      exact impl_restOf.loop_v hm hp hpb i _ (by omega) st
    · rw [if_neg c] at st ⊢
      exact impl_restOf.loop_v hm hp hpb i r (by omega) st
theorem impl_restOf.v {m p : Nat} (hm : m ≤ 5) (hp : p < 2 ^ (m + 1)) (hpb : p.testBit m = true) {r : Nat} (h : r < 2 ^ (m + m)) : impl_restOf.d (r : Int) (p : Int) = some ((red m p r m : Nat) : Int) := by
  rw [impl_restOf.d_eq, impl_degreeOf.d_eq, impl_degreeOf.some_v m p (-1) (by omega) hp hpb (by omega) (by omega), bind_some', show (-1 + (m : Int) + 1) = m by omega]
  exact impl_restOf.loop_v hm hp hpb m r (by omega) h
theorem fields_bits : ∀ f ∈ fields14, 0 ≤ f.2 ∧ f.2.toNat < 2 ^ (f.1.toNat + 1) ∧ f.2.toNat.testBit f.1.toNat = true := by decide +kernel
theorem valid_nat {m p : Int} (h : validB m p = true) : ∃ M P : Nat, m = (M : Int) ∧ p = (P : Int) ∧ 1 ≤ M ∧ M ≤ 5 := by
  have h' : (m, p) ∈ fields14 := by simpa [validB] using h
  have h2 := fields_bits _ h'
  have h3 := valid_facts h
  exact ⟨m.toNat, p.toNat, by omega, by simp only at h2; omega, by omega, by omega⟩
theorem valid_bits {M P : Nat} (h : validB (M : Int) (P : Int) = true) : 1 ≤ M ∧ M ≤ 5 ∧ P < 2 ^ (M + 1) ∧ P.testBit M = true := by
  have h' : ((M : Int), (P : Int)) ∈ fields14 := by simpa [validB] using h
  have h2 := fields_bits _ h'
  have h3 := valid_facts h
  exact ⟨by omega, by omega, h2.2.1, h2.2.2⟩
theorem fmul_lt {M P : Nat} (h : validB (M : Int) (P : Int) = true) {a : Nat} (ha : a < 2 ^ M) (b : Nat) : fmul M P a b < 2 ^ M := by
  have hv := valid_bits h
  exact red_lt hv.2.2.1 hv.2.2.2 M _ (clm_lt ha b M)
end Go.Proofs.Ytbalkaphibnpcaa.P
end
section
namespace Go.Proofs.Ytbalkaphibnpcaa.P
open Go.RowKit Go.Proofs.YtbalkaphibnpcaaW.PrintWords Go.Proofs.YtbalkaphibnpcaaW.PrintLast Go.Proofs.YtbalkaphibnpcaaW.PrintMore
set_option linter.unusedVariables false
set_option linter.unusedSimpArgs false
/-- a row of c numbers of the field -/
def rowOk (m c : Int) (r : List Int) : Bool := decide ((r.length : Int) = c) && r.all (elemB m)
def rowsCode (m p c : Int) (l : List (List Int)) : Int := if validB m p = true then (if (1 ≤ c ∧ c ≤ 5) ∧ (l.length : Int) ≤ 10 then (if l.all (rowOk m c) = true then 0 else 2) else 2) else 1
theorem fin_s (a b c : Int) : spec_l00In.f a b c = some (decide (b ≤ a ∧ a ≤ c)) := by
  unfold spec_l00In.f
  by_cases h : a ≥ b
  · rw [if_pos h]; congr 1; apply decide_eq_decide.mpr; omega
  · rw [if_neg h]; congr 1; exact (decide_eq_false (by omega)).symm
theorem fin_i (a b c : Int) : impl_within.f a b c = some (decide (b ≤ a ∧ a ≤ c)) := fin_s a b c
theorem frL {l : List (List Int)} {i : Nat} (h : i < l.length) : rd_L1 l (i : Int) = l[i] := by simp [rd_L1, List.getD, h]
theorem s_rows_v (m p c : Int) {l : List (List Int)} (hx : ∀ x ∈ l, x.length ≤ 1048576) : spec_l04Rows.d m p c l = some (rowsCode m p c l) := by
  rw [spec_l04Rows.d_eq, s_l01Ok_v, bind_some']
  unfold rowsCode
  by_cases h : validB m p = true
  · rw [if_pos h, if_pos h, fin_s, bind_some']
    by_cases hc : 1 ≤ c ∧ c ≤ 5
    · rw [if_pos (decide_eq_true hc)]
      by_cases hl : (l.length : Int) ≤ 10
      · rw [decide_eq_false (show ¬ (l.length : Int) > 10 by omega), spec_l04Rows.j0d_eq, if_neg (by simp), if_pos ⟨hc, hl⟩]
        have key : ∀ i, i ≤ l.length → spec_l04Rows.l0d c l (i : Int) m p = some (if (l.drop i).all (rowOk m c) = true then 0 else 2) := by
          apply down
          · rw [spec_l04Rows.l0d_eq, if_neg (by omega), List.drop_length, if_pos (by rfl)]
          · intro i hi e
            rw [spec_l04Rows.l0d_eq, if_pos (by omega), if_pos (by omega), frL hi, List.drop_eq_getElem_cons hi, List.all_cons]
            have hlen := hx _ (List.getElem_mem hi)
            by_cases c1 : ((l[i]).length : Int) = c
            · rw [if_pos c1, s_l04Elements_v h p (by omega), bind_some']
              by_cases c2 : (l[i]).all (elemB m) = true
              · rw [if_pos c2, wrS hi (by omega), e]; simp [rowOk, c1, c2]
              · rw [if_neg c2]; simp [rowOk, c1, Bool.eq_false_iff.mpr c2]
            · rw [if_neg c1]; simp [rowOk, c1]
        exact key 0 (by omega)
      · rw [decide_eq_true (show (l.length : Int) > 10 by omega), spec_l04Rows.j0d_eq, if_pos rfl, if_neg (fun z => hl z.2)]
    · rw [if_neg (by simpa using hc), spec_l04Rows.j0d_eq, if_pos rfl, if_neg (fun z => hc z.1)]
  · rw [if_neg h, if_neg h]
theorem i_rows_v (m p c : Int) {l : List (List Int)} (hx : ∀ x ∈ l, x.length ≤ 1048576) : impl_Field_rowsCode.d m p c l = some (rowsCode m p c l) := by
  rw [impl_Field_rowsCode.d_eq, i_ValidField_v, bind_some']
  unfold rowsCode
  by_cases h : validB m p = true
  · rw [if_pos h, if_pos h, fin_i, bind_some']
    by_cases hc : 1 ≤ c ∧ c ≤ 5
    · rw [if_pos (decide_eq_true hc)]
      by_cases hl : (l.length : Int) ≤ 10
      · rw [if_neg (show ¬ (l.length : Int) > 10 by omega), if_pos ⟨hc, hl⟩, slices_ContainsFunc_int64_int64_AT_impl_Field_rowsCode_1.d_eq, slices_IndexFunc_int64_int64_AT_impl_Field_rowsCode_1.d_eq]
        have one : ∀ r : List Int, r.length ≤ 1048576 → impl_Field_rowsCode_1.d r c m p = some (!(rowOk m c r)) := fun r hr => by
          rw [impl_Field_rowsCode_1.d_eq]
          unfold impl_size_int64_71.f
          rw [bind_some']
          by_cases c1 : (r.length : Int) = c
          · rw [if_pos c1, i_has_v h p (by omega), bind_some']; simp [rowOk, c1]
          · rw [if_neg c1]; simp [rowOk, c1]
        obtain ⟨v, e, hv, _⟩ := index_gen (F := fun i => slices_IndexFunc_int64_int64_AT_impl_Field_rowsCode_1.l0d l (l.length : Int) i c m p) (n := l.length) (q := fun i => !(rowOk m c (l.getD i [])))
          (by show slices_IndexFunc_int64_int64_AT_impl_Field_rowsCode_1.l0d l (l.length : Int) (l.length : Int) c m p = _; rw [slices_IndexFunc_int64_int64_AT_impl_Field_rowsCode_1.l0d_eq, if_neg (by omega)])
          (by
            intro i hi
            show slices_IndexFunc_int64_int64_AT_impl_Field_rowsCode_1.l0d l (l.length : Int) (i : Int) c m p = _
            have e2 : l.getD i [] = l[i] := by simp [List.getD, hi]
            rw [slices_IndexFunc_int64_int64_AT_impl_Field_rowsCode_1.l0d_eq, if_pos (by omega), if_pos (by omega), if_pos (by omega), frL hi, one _ (hx _ (List.getElem_mem hi)), bind_some', wrS hi (by omega), e2])
        rw [e, bind_some', bind_some', hv]
        by_cases a : l.all (rowOk m c) = true
        · rw [if_pos a]
          have : ∀ i, i < l.length → (!(rowOk m c (l.getD i []))) = false := fun i hi => by
            have := List.all_eq_true.mp a l[i] (List.getElem_mem hi)
            simp [List.getD, hi, this]
          rw [decide_eq_true this, if_neg (by decide)]
        · rw [if_neg a]
          have : ¬ ∀ i, i < l.length → (!(rowOk m c (l.getD i []))) = false := fun z => a (by
            rw [List.all_eq_true]
            intro x hx'
            obtain ⟨i, hi, rfl⟩ := List.mem_iff_getElem.mp hx'
            have := z i hi
            simpa [List.getD, hi] using this)
          rw [decide_eq_false this, if_pos (by decide)]
      · rw [if_pos (show (l.length : Int) > 10 by omega), if_neg (fun z => hl z.2)]
    · rw [if_neg (by simpa using hc), if_neg (fun z => hc z.1)]
  · rw [if_neg h, if_neg h]
/-- rows of N numbers of M places each -/
def Good (M N : Nat) (L : List (List Nat)) : Prop := ∀ r ∈ L, r.length = N ∧ ∀ x ∈ r, x < 2 ^ M
theorem rows_good {m p c : Int} {l : List (List Int)} (h : rowsCode m p c l = 0) :
    ∃ M P N : Nat, ∃ L : List (List Nat), m = (M : Int) ∧ p = (P : Int) ∧ c = (N : Int) ∧ N ≤ 5 ∧ validB (M : Int) (P : Int) = true ∧ l = L.map up ∧ L.length ≤ 10 ∧ Good M N L := by
  unfold rowsCode at h
  by_cases hv : validB m p = true
  · rw [if_pos hv] at h
    by_cases hc : (1 ≤ c ∧ c ≤ 5) ∧ (l.length : Int) ≤ 10
    · rw [if_pos hc] at h
      by_cases ha : l.all (rowOk m c) = true
      · obtain ⟨M, P, rfl, rfl, _, _⟩ := valid_nat hv
        rw [List.all_eq_true] at ha
        have hr : ∀ x ∈ l, ∃ ln : List Nat, x = up ln ∧ ln.length = c.toNat ∧ ∀ y ∈ ln, y < 2 ^ M := fun x hx => by
          have := ha x hx
          unfold rowOk at this
          rw [Bool.and_eq_true, decide_eq_true_eq] at this
          obtain ⟨ln, rfl, hb⟩ := elems_up this.2
          refine ⟨ln, rfl, ?_, hb⟩
          have := this.1
          rw [up_length] at this
          omega
        have : ∀ l : List (List Int), (∀ x ∈ l, ∃ ln : List Nat, x = up ln ∧ ln.length = c.toNat ∧ ∀ y ∈ ln, y < 2 ^ M) → ∃ L : List (List Nat), l = L.map up ∧ Good M c.toNat L := by
          intro l
          induction l with
          | nil => exact fun _ => ⟨[], rfl, fun _ hx => by cases hx⟩
          | cons a l ih =>
            intro hl
            obtain ⟨L, e, hL⟩ := ih fun x hx => hl x (List.mem_cons_of_mem _ hx)
            obtain ⟨ln, e2, h3, h4⟩ := hl a List.mem_cons_self
            refine ⟨ln :: L, by rw [List.map_cons, ← e, ← e2], fun r hr => ?_⟩
            rcases List.mem_cons.mp hr with z | z
            · subst z; exact ⟨h3, h4⟩
            · exact hL r z
        obtain ⟨L, e, hL⟩ := this l hr
        exact ⟨M, P, c.toNat, L, rfl, rfl, by omega, by omega, hv, e, by have := congrArg List.length e; rw [List.length_map] at this; omega, hL⟩
      · rw [if_neg ha] at h; cases h
    · rw [if_neg hc] at h; cases h
  · rw [if_neg hv] at h; cases h
end Go.Proofs.Ytbalkaphibnpcaa.P
end
section
namespace Go.Proofs.Ytbalkaphibnpcaa.P
open Go.RowKit Go.Proofs.YtbalkaphibnpcaaW.PrintWords Go.Proofs.YtbalkaphibnpcaaW.PrintLast Go.Proofs.YtbalkaphibnpcaaW.PrintMore
set_option linter.unusedVariables false
set_option linter.unusedSimpArgs false
theorem s_mul_v {M P : Nat} (h : validB (M : Int) (P : Int) = true) {a b : Nat} (ha : a < 2 ^ M) (hb : b < 2 ^ M) : spec_l01Mul.d (M : Int) (P : Int) (a : Int) (b : Int) = some ((fmul M P a b : Nat) : Int) := by
  have hv := valid_bits h
  have hb5 : b < 2 ^ 5 := lt_mono hb hv.2.1
  have key : ∀ i, i ≤ M → spec_l01Mul.l0d (a : Int) (b : Int) ((clm a b i : Nat) : Int) (i : Int) (M : Int) (P : Int) = some ((fmul M P a b : Nat) : Int) := by
    apply down
    · rw [spec_l01Mul.l0d_eq, if_neg (by omega), spec_l01Rest.v hv.2.1 hv.2.2.1 hv.2.2.2 (clm_lt ha b M)]; rfl
    · intro i hi e
      have h1 : a * 2 ^ i < 2 ^ 10 := lt_mono (mul_pow_lt ha) (by omega)
      have h2 : clm a b i < 2 ^ 10 := lt_mono (clm_lt ha b i) (by omega)
      rw [spec_l01Mul.l0d_eq, if_pos (by omega), u64_id (by omega) (by omega), if_pos (by omega), bit_test (by omega) (by omega), wrS hi (by omega), ← e, clm]
      by_cases c : b.testBit i = true
      · rw [if_pos c, if_pos rfl, if_pos c, shl_nat (by omega) (by omega), bxor (by omega) (by omega)]
      · rw [if_neg c, if_neg (by decide), if_neg c, Nat.xor_zero]
  rw [spec_l01Mul.d_eq]
  exact key 0 (by omega)
end Go.Proofs.Ytbalkaphibnpcaa.P
end
section
namespace Go.Proofs.Ytbalkaphibnpcaa.P
open Go.RowKit Go.Proofs.YtbalkaphibnpcaaW.PrintWords Go.Proofs.YtbalkaphibnpcaaW.PrintLast Go.Proofs.YtbalkaphibnpcaaW.PrintMore
set_option linter.unusedVariables false
set_option linter.unusedSimpArgs false
theorem i_product_v {M a b : Nat} (hM : M ≤ 5) (ha : a < 2 ^ M) (hb : b < 2 ^ M) : impl_product.d (a : Int) (b : Int) = some ((clm a b M : Nat) : Int) := by
  have hb5 : b < 2 ^ 5 := lt_mono hb hM
  have key : ∀ i, i ≤ M → impl_product.l0d ((a * 2 ^ i : Nat) : Int) ((b / 2 ^ i : Nat) : Int) ((clm a b i : Nat) : Int) = some ((clm a b M : Nat) : Int) := by
    apply down
    · rw [impl_product.l0d_eq, if_neg (by rw [Nat.div_eq_of_lt hb]; decide)]
    · intro i hi e
      have h1 : a * 2 ^ i < 2 ^ 10 := lt_mono (mul_pow_lt ha) (by omega)
      have h2 : clm a b i < 2 ^ 10 := lt_mono (clm_lt ha b i) (by omega)
      have h3 : b / 2 ^ i ≤ b := Nat.div_le_self _ _
      by_cases z : b / 2 ^ i = 0
      · have z' : b < 2 ^ i := by
          apply Classical.byContradiction
          intro w
          have := Nat.div_pos (Nat.le_of_not_lt w) (Nat.two_pow_pos i)
          omega
        rw [impl_product.l0d_eq, if_neg (by omega)]
        have := clm_stop a z' (M - i)
        rw [show i + (M - i) = M by omega] at this
        rw [this]
      · have e1 : wrap64 (((a * 2 ^ i : Nat) : Int) * 2) = ((a * 2 ^ (i + 1) : Nat) : Int) := by
          rw [wr (by omega) (by omega), Nat.pow_succ, ← Nat.mul_assoc]; simp
        have e2 : ((b / 2 ^ i : Nat) : Int) / 2 = ((b / 2 ^ (i + 1) : Nat) : Int) := by
          rw [Nat.pow_succ, ← Nat.div_div_eq_div_mul]; generalize b / 2 ^ i = q; omega
        have e3 : Go.bits .and .i64 ((b / 2 ^ i : Nat) : Int) 1 = if b.testBit i = true then 1 else 0 := by
          have := band (a := b / 2 ^ i) (b := 1) (by omega) (by omega)
          rw [show ((1 : Nat) : Int) = 1 from rfl] at this
          rw [this, Nat.and_one_is_mod, Nat.testBit_eq_decide_div_mod_eq]
          rcases Nat.mod_two_eq_zero_or_one (b / 2 ^ i) with w | w <;> rw [w] <;> simp
        rw [impl_product.l0d_eq, if_pos (Int.natCast_pos.mpr (Nat.pos_of_ne_zero z)), e1, e2, e3, ← e, clm]
        by_cases c : b.testBit i = true
        · rw [if_pos c, if_pos rfl, if_pos c, bxor (by omega) (by omega)]
        · rw [if_neg c, if_neg (by decide), if_neg c, Nat.xor_zero]
  rw [impl_product.d_eq]
  have := key 0 (by omega)
  simpa [clm] using this
theorem i_mul_v {M P : Nat} (h : validB (M : Int) (P : Int) = true) {a b : Nat} (ha : a < 2 ^ M) (hb : b < 2 ^ M) : impl_Field_mul.d (M : Int) (P : Int) (a : Int) (b : Int) = some ((fmul M P a b : Nat) : Int) := by
  have hv := valid_bits h
  rw [impl_Field_mul.d_eq, i_product_v hv.2.1 ha hb, bind_some', impl_restOf.v hv.2.1 hv.2.2.1 hv.2.2.2 (clm_lt ha b M)]; rfl
end Go.Proofs.Ytbalkaphibnpcaa.P
end
section
namespace Go.Proofs.Ytbalkaphibnpcaa.P
open Go.RowKit Go.Proofs.YtbalkaphibnpcaaW.PrintWords Go.Proofs.YtbalkaphibnpcaaW.PrintLast Go.Proofs.YtbalkaphibnpcaaW.PrintMore
set_option linter.unusedVariables false
set_option linter.unusedSimpArgs false
end Go.Proofs.Ytbalkaphibnpcaa.P
end
section
namespace Go.Proofs.Ytbalkaphibnpcaa.P
open Go.RowKit Go.Proofs.YtbalkaphibnpcaaW.PrintWords Go.Proofs.YtbalkaphibnpcaaW.PrintLast Go.Proofs.YtbalkaphibnpcaaW.PrintMore
set_option linter.unusedVariables false
set_option linter.unusedSimpArgs false
theorem mul_pow_xor (x y m : Nat) : (x ^^^ y) * 2 ^ m = x * 2 ^ m ^^^ y * 2 ^ m := by
  apply Nat.eq_of_testBit_eq
  intro i
  simp only [Nat.testBit_xor, Nat.testBit_mul_two_pow]
  cases decide (m ≤ i) <;> simp
theorem xor4 (a b c d : Nat) : (a ^^^ b) ^^^ (c ^^^ d) = (a ^^^ c) ^^^ (b ^^^ d) := by
  rw [Nat.xor_assoc, Nat.xor_assoc, ← Nat.xor_assoc b, Nat.xor_comm b c, Nat.xor_assoc]
theorem clm_xor_l (a a' b : Nat) : ∀ n, clm (a ^^^ a') b n = clm a b n ^^^ clm a' b n
  | 0 => by simp [clm]
  | n + 1 => by
    rw [clm, clm, clm, clm_xor_l a a' b n, xor4]
    congr 1
    split
    · exact mul_pow_xor a a' n
    · rfl
theorem clm_xor_r (a b b' : Nat) : ∀ n, clm a (b ^^^ b') n = clm a b n ^^^ clm a b' n
  | 0 => by simp [clm]
  | n + 1 => by
    rw [clm, clm, clm, clm_xor_r a b b' n, xor4, Nat.testBit_xor]
    congr 1
    cases b.testBit n <;> cases b'.testBit n <;> simp
theorem red_xor (m p : Nat) : ∀ i x y, red m p (x ^^^ y) i = red m p x i ^^^ red m p y i
  | 0, _, _ => rfl
  | i + 1, x, y => by
    rw [red, red, red, ← red_xor m p i, Nat.testBit_xor]
    congr 1
    cases x.testBit (m + i) <;> cases y.testBit (m + i)
    · simp
    · simp [Nat.xor_assoc]
    · simp only [Bool.xor_false, if_true, Bool.false_eq_true, if_false]
      rw [Nat.xor_assoc, Nat.xor_comm y, ← Nat.xor_assoc]
    · simp only [Bool.xor_self, if_true, Bool.false_eq_true, if_false]
      rw [xor4, Nat.xor_self, Nat.xor_zero]
theorem fmul_xor_l (m p a a' b : Nat) : fmul m p (a ^^^ a') b = fmul m p a b ^^^ fmul m p a' b := by unfold fmul; rw [clm_xor_l, red_xor]
theorem fmul_xor_r (m p a b b' : Nat) : fmul m p a (b ^^^ b') = fmul m p a b ^^^ fmul m p a b' := by unfold fmul; rw [clm_xor_r, red_xor]
theorem fmul_0l (m p b : Nat) : fmul m p 0 b = 0 := by
  have := fmul_xor_l m p 0 0 b
  rw [Nat.xor_self, Nat.xor_self] at this; exact this
theorem fmul_0r (m p a : Nat) : fmul m p a 0 = 0 := by
  have := fmul_xor_r m p a 0 0
  rw [Nat.xor_self, Nat.xor_self] at this; exact this
theorem basis_ind {Q : Nat → Prop} (h0 : Q 0) (hx : ∀ x y, Q x → Q y → Q (x ^^^ y)) : ∀ m, (∀ i, i < m → Q (2 ^ i)) → ∀ x, x < 2 ^ m → Q x
  | 0, _, x, h => by have : x = 0 := by simpa using h
                     rw [this]; exact h0
  | m + 1, hb, x, h => by
    by_cases c : x.testBit m = true
    · have h2 : x ^^^ 2 ^ m < 2 ^ m := by
        apply Nat.lt_pow_two_of_testBit
        intro j hj
        rw [Nat.testBit_xor, Nat.testBit_two_pow]
        by_cases e : m = j
        · subst e; simp [c]
        · rw [Nat.testBit_lt_two_pow (Nat.lt_of_lt_of_le h (Nat.pow_le_pow_right (by omega) (by omega)))]; simp [e]
      have := hx _ _ (basis_ind h0 hx m (fun i hi => hb i (by omega)) _ h2) (hb m (by omega))
      rwa [Nat.xor_assoc, Nat.xor_self, Nat.xor_zero] at this
    · refine basis_ind h0 hx m (fun i hi => hb i (by omega)) x ?_
      apply Nat.lt_pow_two_of_testBit
      intro j hj
      by_cases e : m = j
      · subst e; exact Bool.eq_false_iff.mpr c
      · exact Nat.testBit_lt_two_pow (Nat.lt_of_lt_of_le h (Nat.pow_le_pow_right (by omega) (by omega)))
def algB (m p : Nat) : Bool := (List.range m).all fun i => fmul m p (2 ^ i) 1 == 2 ^ i && (List.range m).all fun j => fmul m p (2 ^ i) (2 ^ j) == fmul m p (2 ^ j) (2 ^ i) && (List.range m).all fun k => fmul m p (fmul m p (2 ^ i) (2 ^ j)) (2 ^ k) == fmul m p (2 ^ i) (fmul m p (2 ^ j) (2 ^ k))
theorem alg_all : (fields14.all fun f => algB f.1.toNat f.2.toNat) = true := by decide +kernel
theorem alg_of {M P : Nat} (h : validB (M : Int) (P : Int) = true) : algB M P = true := by
  have h' : ((M : Int), (P : Int)) ∈ fields14 := by simpa [validB] using h
  have := List.all_eq_true.mp alg_all _ h'
  simpa using this
theorem alg_get {M P : Nat} (h : validB (M : Int) (P : Int) = true) {i : Nat} (hi : i < M) : fmul M P (2 ^ i) 1 = 2 ^ i ∧ ∀ j, j < M → fmul M P (2 ^ i) (2 ^ j) = fmul M P (2 ^ j) (2 ^ i) ∧ ∀ k, k < M → fmul M P (fmul M P (2 ^ i) (2 ^ j)) (2 ^ k) = fmul M P (2 ^ i) (fmul M P (2 ^ j) (2 ^ k)) := by
  have a := alg_of h
  unfold algB at a
  have a1 := List.all_eq_true.mp a i (List.mem_range.mpr hi)
  rw [Bool.and_eq_true] at a1
  refine ⟨by simpa using a1.1, fun j hj => ?_⟩
  have a2 := List.all_eq_true.mp a1.2 j (List.mem_range.mpr hj)
  rw [Bool.and_eq_true] at a2
  refine ⟨by simpa using a2.1, fun k hk => ?_⟩
  simpa using List.all_eq_true.mp a2.2 k (List.mem_range.mpr hk)
theorem fmul_1 {M P : Nat} (h : validB (M : Int) (P : Int) = true) {a : Nat} (ha : a < 2 ^ M) : fmul M P a 1 = a :=
  basis_ind (Q := fun a => fmul M P a 1 = a) (fmul_0l _ _ _) (fun x y hx hy => by show fmul M P (x ^^^ y) 1 = _; rw [fmul_xor_l, hx, hy]) M (fun i hi => (alg_get h hi).1) a ha
theorem fmul_comm {M P : Nat} (h : validB (M : Int) (P : Int) = true) {a b : Nat} (ha : a < 2 ^ M) (hb : b < 2 ^ M) : fmul M P a b = fmul M P b a := by
  refine basis_ind (Q := fun a => fmul M P a b = fmul M P b a) (by show fmul M P 0 b = fmul M P b 0; rw [fmul_0l, fmul_0r]) (fun x y hx hy => by show fmul M P (x ^^^ y) b = fmul M P b (x ^^^ y); rw [fmul_xor_l, fmul_xor_r, hx, hy]) M (fun i hi => ?_) a ha
  exact basis_ind (Q := fun b => fmul M P (2 ^ i) b = fmul M P b (2 ^ i)) (by show fmul M P _ 0 = fmul M P 0 _; rw [fmul_0l, fmul_0r]) (fun x y hx hy => by show fmul M P _ (x ^^^ y) = fmul M P (x ^^^ y) _; rw [fmul_xor_l, fmul_xor_r, hx, hy]) M (fun j hj => ((alg_get h hi).2 j hj).1) b hb
theorem fmul_assoc {M P : Nat} (h : validB (M : Int) (P : Int) = true) {a b c : Nat} (ha : a < 2 ^ M) (hb : b < 2 ^ M) (hc : c < 2 ^ M) : fmul M P (fmul M P a b) c = fmul M P a (fmul M P b c) := by
  refine basis_ind (Q := fun a => fmul M P (fmul M P a b) c = fmul M P a (fmul M P b c)) (by show fmul M P (fmul M P 0 b) c = _; rw [fmul_0l, fmul_0l, fmul_0l]) (fun x y hx hy => by show fmul M P (fmul M P (x ^^^ y) b) c = fmul M P (x ^^^ y) _; rw [fmul_xor_l, fmul_xor_l, fmul_xor_l, hx, hy]) M (fun i hi => ?_) a ha
  refine basis_ind (Q := fun b => fmul M P (fmul M P (2 ^ i) b) c = fmul M P (2 ^ i) (fmul M P b c)) (by show fmul M P (fmul M P _ 0) c = fmul M P _ (fmul M P 0 c); rw [fmul_0r, fmul_0l, fmul_0r]) (fun x y hx hy => by show fmul M P (fmul M P _ (x ^^^ y)) c = fmul M P _ (fmul M P (x ^^^ y) c); rw [fmul_xor_r, fmul_xor_l, fmul_xor_l, fmul_xor_r, hx, hy]) M (fun j hj => ?_) b hb
  exact basis_ind (Q := fun c => fmul M P (fmul M P (2 ^ i) (2 ^ j)) c = fmul M P (2 ^ i) (fmul M P (2 ^ j) c)) (by show fmul M P _ 0 = fmul M P _ (fmul M P _ 0); rw [fmul_0r, fmul_0r, fmul_0r]) (fun x y hx hy => by show fmul M P _ (x ^^^ y) = fmul M P _ (fmul M P _ (x ^^^ y)); rw [fmul_xor_r, fmul_xor_r, fmul_xor_r, hx, hy]) M (fun k hk => ((alg_get h hi).2 j hj).2 k hk) c hc
/-- a power as a product -/
def npow (m p a : Nat) : Nat → Nat
  | 0 => 1
  | n + 1 => fmul m p (npow m p a n) a
theorem one_lt {M P : Nat} (h : validB (M : Int) (P : Int) = true) : 1 < 2 ^ M := Nat.one_lt_two_pow (by have := valid_bits h; omega)
theorem npow_lt {M P : Nat} (h : validB (M : Int) (P : Int) = true) {a : Nat} (ha : a < 2 ^ M) : ∀ n, npow M P a n < 2 ^ M
  | 0 => one_lt h
  | n + 1 => fmul_lt h (npow_lt h ha n) a
theorem npow_sq {M P : Nat} (h : validB (M : Int) (P : Int) = true) {a : Nat} (ha : a < 2 ^ M) : ∀ q, npow M P (fmul M P a a) q = npow M P a (2 * q)
  | 0 => rfl
  | q + 1 => by
    rw [show 2 * (q + 1) = 2 * q + 1 + 1 by omega, npow, npow, npow, npow_sq h ha q, fmul_assoc h (npow_lt h ha _) ha ha]
end Go.Proofs.Ytbalkaphibnpcaa.P
end
section
namespace Go.Proofs.Ytbalkaphibnpcaa.P
open Go.RowKit Go.Proofs.YtbalkaphibnpcaaW.PrintWords Go.Proofs.YtbalkaphibnpcaaW.PrintLast Go.Proofs.YtbalkaphibnpcaaW.PrintMore
set_option linter.unusedVariables false
set_option linter.unusedSimpArgs false
theorem half_step (n : Nat) : n = 2 * (n / 2) + (if n.testBit 0 = true then 1 else 0) := by
  rw [Nat.testBit_zero]
  by_cases c : n % 2 = 1
  · simp [c]; omega
  · simp [c]; omega
theorem bit0_v {n : Nat} (h : n < 9223372036854775808) : Go.bits .and .i64 (n : Int) 1 = if n.testBit 0 = true then 1 else 0 := by
  have := band (a := n) (b := 1) h (by omega)
  rw [show ((1 : Nat) : Int) = 1 from rfl] at this
  rw [this, Nat.and_one_is_mod, Nat.testBit_zero]
  rcases Nat.mod_two_eq_zero_or_one n with w | w <;> rw [w] <;> simp
theorem i_pow_loop {M P : Nat} (h : validB (M : Int) (P : Int) = true) : ∀ (f n a o : Nat), n ≤ f → n ≤ 100000 → a < 2 ^ M → o < 2 ^ M → impl_Field_power.l0d (a : Int) (n : Int) (o : Int) (M : Int) (P : Int) = some ((fmul M P o (npow M P a n) : Nat) : Int)
  | 0, n, a, o, hf, _, ha, ho => by
    have : n = 0 := by omega
    subst this
    rw [impl_Field_power.l0d_eq, if_neg (by decide), npow, fmul_1 h ho]
  | f + 1, n, a, o, hf, hn, ha, ho => by
    by_cases z : n = 0
    · subst z
      rw [impl_Field_power.l0d_eq, if_neg (by decide), npow, fmul_1 h ho]
    · have hs := half_step n
      have e2 : ((n : Int) / 2) = ((n / 2 : Nat) : Int) := by omega
      rw [impl_Field_power.l0d_eq, if_pos (by omega), bit0_v (by omega), e2]
      have sq := fmul_lt h ha a
      by_cases c : n.testBit 0 = true
      · rw [if_pos c] at hs ⊢
        rw [if_pos rfl, i_mul_v h ho ha, bind_some', i_mul_v h ha ha, bind_some', i_pow_loop h f (n / 2) _ _ (by omega) (by omega) sq (fmul_lt h ho a), npow_sq h ha]
        have hn2 := npow_lt h ha (2 * (n / 2))
        rw [fmul_assoc h ho ha hn2, fmul_comm h ha hn2]
        conv => rhs; rw [hs, npow]
      · rw [if_neg c] at hs ⊢
        rw [if_neg (by decide), i_mul_v h ha ha, bind_some', i_pow_loop h f (n / 2) _ _ (by omega) (by omega) sq ho, npow_sq h ha]
        conv => rhs; rw [hs, Nat.add_zero]
theorem fmul_1l {M P : Nat} (h : validB (M : Int) (P : Int) = true) {a : Nat} (ha : a < 2 ^ M) : fmul M P 1 a = a := by rw [fmul_comm h (one_lt h) ha, fmul_1 h ha]
theorem i_power_v {M P : Nat} (h : validB (M : Int) (P : Int) = true) {n a : Nat} (hn : n ≤ 100000) (ha : a < 2 ^ M) : impl_Field_power.d (M : Int) (P : Int) (a : Int) (n : Int) = some ((npow M P a n : Nat) : Int) := by
  rw [impl_Field_power.d_eq]
  have := i_pow_loop h n n a 1 (Nat.le_refl _) hn ha (one_lt h)
  rw [fmul_1l h (npow_lt h ha n)] at this
  exact this
end Go.Proofs.Ytbalkaphibnpcaa.P
end
section
namespace Go.Proofs.Ytbalkaphibnpcaa.P
open Go.RowKit Go.Proofs.YtbalkaphibnpcaaW.PrintWords Go.Proofs.YtbalkaphibnpcaaW.PrintLast Go.Proofs.YtbalkaphibnpcaaW.PrintMore
set_option linter.unusedVariables false
set_option linter.unusedSimpArgs false
theorem i_inv_v {M P : Nat} (h : validB (M : Int) (P : Int) = true) {a : Nat} (ha : a < 2 ^ M) : impl_Field_inverse.d (M : Int) (P : Int) (a : Int) = some ((npow M P a (2 ^ M - 2) : Nat) : Int) := by
  have hv := valid_bits h
  have h5 : 2 ^ M ≤ 2 ^ 5 := Nat.pow_le_pow_right (by omega) hv.2.1
  have h1 : 2 ^ 1 ≤ 2 ^ M := Nat.pow_le_pow_right (by omega) hv.1
  have e : ((2 ^ M : Nat) : Int) = (2 : Int) ^ M := by simp
  have w : wrap64 ((2 : Int) ^ (M : Int).toNat - 2) = ((2 ^ M - 2 : Nat) : Int) := by
    rw [Int.toNat_natCast, ← e, wr (by omega) (by omega)]; omega
  rw [impl_Field_inverse.d_eq, i_count_v h, bind_some', w, i_power_v h (by omega) ha, bind_some']
theorem s_pow_loop {M P : Nat} (h : validB (M : Int) (P : Int) = true) {a : Nat} (ha : a < 2 ^ M) : ∀ (n m : Nat), n ≤ 1000 → spec_l01Power.l0d (a : Int) (n : Int) ((npow M P a m : Nat) : Int) (M : Int) (P : Int) = some ((npow M P a (m + n) : Nat) : Int)
  | 0, m, _ => by rw [spec_l01Power.l0d_eq, if_neg (by decide), Nat.add_zero]
  | n + 1, m, hn => by
    have w : wrap64 (((n + 1 : Nat) : Int) - 1) = (n : Int) := by rw [wr (by omega) (by omega)]; omega
    rw [spec_l01Power.l0d_eq, if_pos (by omega), s_mul_v h (npow_lt h ha m) ha, bind_some', w]
    have := s_pow_loop h ha n (m + 1) (by omega)
    rw [npow] at this
    rw [this, show m + 1 + n = m + (n + 1) by omega]
theorem s_inv_v {M P : Nat} (h : validB (M : Int) (P : Int) = true) {a : Nat} (ha : a < 2 ^ M) : spec_l01Inverse.d (M : Int) (P : Int) (a : Int) = some ((npow M P a (2 ^ M - 2) : Nat) : Int) := by
  have hv := valid_bits h
  have h5 : 2 ^ M ≤ 2 ^ 5 := Nat.pow_le_pow_right (by omega) hv.2.1
  have h1 : 2 ^ 1 ≤ 2 ^ M := Nat.pow_le_pow_right (by omega) hv.1
  have e : ((2 ^ M : Nat) : Int) = (2 : Int) ^ M := by simp
  have w : wrap64 ((2 : Int) ^ (M : Int).toNat - 2) = ((2 ^ M - 2 : Nat) : Int) := by
    rw [Int.toNat_natCast, ← e, wr (by omega) (by omega)]; omega
  have := s_pow_loop h ha (2 ^ M - 2) 0 (by omega)
  rw [Nat.zero_add] at this
  rw [spec_l01Inverse.d_eq, s_l01Size_v h, bind_some', w, spec_l01Power.d_eq]
  have this' : spec_l01Power.l0d (a : Int) ((2 ^ M - 2 : Nat) : Int) 1 (M : Int) (P : Int) = some ((npow M P a (2 ^ M - 2) : Nat) : Int) := this
  rw [this', bind_some']
end Go.Proofs.Ytbalkaphibnpcaa.P
end
section
namespace Go.Proofs.Ytbalkaphibnpcaa.P
open Go.RowKit Go.Proofs.YtbalkaphibnpcaaW.PrintWords Go.Proofs.YtbalkaphibnpcaaW.PrintLast Go.Proofs.YtbalkaphibnpcaaW.PrintMore
set_option linter.unusedVariables false
set_option linter.unusedSimpArgs false
theorem rdL {L : List (List Nat)} {i : Nat} (h : i < L.length) : rd_L1 (L.map up) (i : Int) = up (L.getD i []) := by simp [rd_L1, List.getD, h]
theorem getD_good {M N : Nat} {L : List (List Nat)} (h : Good M N L) {i : Nat} (hi : i < L.length) : (L.getD i []).length = N ∧ ∀ x ∈ L.getD i [], x < 2 ^ M := by
  have : L.getD i [] = L[i] := by simp [List.getD, hi]
  rw [this]; exact h _ (List.getElem_mem hi)
theorem set_good {M N : Nat} {L : List (List Nat)} (h : Good M N L) {r : List Nat} (hr : r.length = N ∧ ∀ x ∈ r, x < 2 ^ M) (i : Nat) : Good M N (L.set i r) := by
  intro x hx
  rcases List.mem_or_eq_of_mem_set hx with h1 | h1
  · exact h _ h1
  · subst h1; exact hr
theorem mup_set (L : List (List Nat)) (i : Nat) (r : List Nat) : (L.map up).set i (up r) = (L.set i r).map up := by rw [List.map_set]
/-- The first j places told anew. -/
def curr (h : Nat → Nat) (o : List Nat) (j : Nat) : List Nat := (List.range j).map h ++ o.drop j
theorem curr_length {h : Nat → Nat} {o : List Nat} {j : Nat} (hj : j ≤ o.length) : (curr h o j).length = o.length := by simp [curr]; omega
theorem curr_get {h : Nat → Nat} {o : List Nat} {j : Nat} (hj : j < o.length) : (curr h o j).getD j 0 = o.getD j 0 := by
  unfold curr
  rw [List.getD_eq_getElem?_getD, List.getD_eq_getElem?_getD, List.getElem?_append_right (by simp)]
  simp
theorem curr_set {h : Nat → Nat} {o : List Nat} {j : Nat} (hj : j < o.length) : (curr h o j).set j (h j) = curr h o (j + 1) := by
  unfold curr
  rw [List.set_append_right _ _ (by simp)]
  have e : (o.drop j).set (j - ((List.range j).map h).length) (h j) = h j :: o.drop (j + 1) := by
    rw [List.drop_eq_getElem_cons hj, List.length_map, List.length_range, Nat.sub_self, List.set_cons_zero]
  rw [e, List.range_succ, List.map_append, List.append_assoc]
  rfl
theorem curr_end {h : Nat → Nat} {o : List Nat} : curr h o o.length = (List.range o.length).map h := by simp [curr]
def sclr (M P t : Nat) (r : List Nat) : List Nat := (List.range r.length).map fun i => fmul M P (r.getD i 0) t
def addr (M P t : Nat) (u v : List Nat) : List Nat := (List.range u.length).map fun i => u.getD i 0 ^^^ fmul M P (v.getD i 0) t
theorem sclr_good {M P N t : Nat} (h : validB (M : Int) (P : Int) = true) {r : List Nat} (hr : r.length = N ∧ ∀ x ∈ r, x < 2 ^ M) : (sclr M P t r).length = N ∧ ∀ x ∈ sclr M P t r, x < 2 ^ M := by
  refine ⟨by simp [sclr, hr.1], fun x hx => ?_⟩
  obtain ⟨i, hi, rfl⟩ := List.mem_map.mp hx
  exact fmul_lt h (hr.2 _ (getD_mem (List.mem_range.mp hi))) t
theorem addr_good {M P N t : Nat} (h : validB (M : Int) (P : Int) = true) {u v : List Nat} (hu : u.length = N ∧ ∀ x ∈ u, x < 2 ^ M) (hv : v.length = N ∧ ∀ x ∈ v, x < 2 ^ M) : (addr M P t u v).length = N ∧ ∀ x ∈ addr M P t u v, x < 2 ^ M := by
  refine ⟨by simp [addr, hu.1], fun x hx => ?_⟩
  obtain ⟨i, hi, rfl⟩ := List.mem_map.mp hx
  have hi' := List.mem_range.mp hi
  exact Nat.xor_lt_two_pow (hu.2 _ (getD_mem hi')) (fmul_lt h (hv.2 _ (getD_mem (by omega))) t)
theorem s_addr_v {M P N t : Nat} (h : validB (M : Int) (P : Int) = true) (hN : N ≤ 5) (ht : t < 2 ^ M) {u v : List Nat} (hu : u.length = N ∧ ∀ x ∈ u, x < 2 ^ M) (hv : v.length = N ∧ ∀ x ∈ v, x < 2 ^ M) :
    spec_l04Add.d (M : Int) (P : Int) (up u) (up v) (t : Int) = some (up (addr M P t u v)) := by
  have h5 : 2 ^ M ≤ 2 ^ 5 := Nat.pow_le_pow_right (by omega) (valid_bits h).2.1
  rw [spec_l04Add.d_eq]
  refine build_gen (F := fun i acc => spec_l04Add.l0d (up u) (up v) (t : Int) acc i (M : Int) (P : Int)) (n := u.length) (g := fun (i : Nat) => ((u.getD i 0 ^^^ fmul M P (v.getD i 0) t : Nat) : Int)) ?_ ?_
  · intro i hi acc ha
    show spec_l04Add.l0d (up u) (up v) (t : Int) acc (i : Int) (M : Int) (P : Int) = _
    have b1 := hu.2 _ (getD_mem hi)
    have b2 := hv.2 _ (getD_mem (show i < v.length by omega))
    have b3 := fmul_lt h b2 t
    rw [spec_l04Add.l0d_eq, if_pos (by rw [up_length]; omega), if_pos (by omega), if_pos (by rw [up_length]; omega), up_getD hi, up_getD (by omega), s_mul_v h b2 ht, bind_some', if_pos (by omega), wrS hi (by omega), bxor (by omega) (by omega)]
  · show spec_l04Add.l0d (up u) (up v) (t : Int) _ (u.length : Int) (M : Int) (P : Int) = _
    rw [spec_l04Add.l0d_eq, if_neg (by rw [up_length]; omega), up_rangeN]; rfl
theorem i_scl_v {M P N t : Nat} (h : validB (M : Int) (P : Int) = true) (hN : N ≤ 5) (ht : t < 2 ^ M) {o : List Nat} (ho : o.length = N ∧ ∀ x ∈ o, x < 2 ^ M) (l : List (List Int)) (d x33 x34 : Int) :
    impl_Field_reduce.l2d l d (up o) (t : Int) x33 x34 ((up o).length : Int) 0 (M : Int) (P : Int) = impl_Field_reduce.l3d (l.set d.toNat (up (sclr M P t o))) d x33 x34 (l.length : Int) 0 (M : Int) (P : Int) := by
  have h5 : 2 ^ M ≤ 2 ^ 5 := Nat.pow_le_pow_right (by omega) (valid_bits h).2.1
  have key : ∀ j, j ≤ o.length → impl_Field_reduce.l2d l d (up (curr (fun i => fmul M P (o.getD i 0) t) o j)) (t : Int) x33 x34 ((up o).length : Int) (j : Int) (M : Int) (P : Int) = impl_Field_reduce.l3d (l.set d.toNat (up (sclr M P t o))) d x33 x34 (l.length : Int) 0 (M : Int) (P : Int) := by
    apply down
    · rw [impl_Field_reduce.l2d_eq, if_neg (by rw [up_length]; omega), curr_end]; rfl
    · intro j hj e
      have cl := curr_length (h := fun i => fmul M P (o.getD i 0) t) (show j ≤ o.length by omega)
      rw [impl_Field_reduce.l2d_eq, if_pos (by rw [up_length]; omega), if_pos (by omega), if_pos (by rw [up_length, cl]; omega), up_getD (by rw [cl]; exact hj), curr_get hj, i_mul_v h (ho.2 _ (getD_mem hj)) ht, bind_some', wrS hj (by omega), Int.toNat_natCast, up_set, curr_set (h := fun i => fmul M P (o.getD i 0) t) hj]
      exact e
  have := key 0 (by omega)
  rw [show curr (fun i => fmul M P (o.getD i 0) t) o 0 = o from by simp [curr]] at this
  exact this
theorem i_add_v {M P N t : Nat} (h : validB (M : Int) (P : Int) = true) (hN : N ≤ 5) (ht : t < 2 ^ M) {u v : List Nat} (hu : u.length = N ∧ ∀ x ∈ u, x < 2 ^ M) (hv : v.length = N ∧ ∀ x ∈ v, x < 2 ^ M) (l : List (List Int)) (d x33 x34 x92 x93 : Int) :
    impl_Field_reduce.l4d l d (up v) (up u) (t : Int) x33 x34 x92 x93 ((up u).length : Int) 0 (M : Int) (P : Int) = impl_Field_reduce.l3d (l.set x93.toNat (up (addr M P t u v))) d x33 x34 x92 (wrap64 (x93 + 1)) (M : Int) (P : Int) := by
  have h5 : 2 ^ M ≤ 2 ^ 5 := Nat.pow_le_pow_right (by omega) (valid_bits h).2.1
  have key : ∀ j, j ≤ u.length → impl_Field_reduce.l4d l d (up v) (up (curr (fun i => u.getD i 0 ^^^ fmul M P (v.getD i 0) t) u j)) (t : Int) x33 x34 x92 x93 ((up u).length : Int) (j : Int) (M : Int) (P : Int) = impl_Field_reduce.l3d (l.set x93.toNat (up (addr M P t u v))) d x33 x34 x92 (wrap64 (x93 + 1)) (M : Int) (P : Int) := by
    apply down
    · rw [impl_Field_reduce.l4d_eq, if_neg (by rw [up_length]; omega), curr_end]; rfl
    · intro j hj e
      have cl := curr_length (h := fun i => u.getD i 0 ^^^ fmul M P (v.getD i 0) t) (show j ≤ u.length by omega)
      have b1 := hu.2 _ (getD_mem hj)
      have b2 := hv.2 _ (getD_mem (show j < v.length by omega))
      have b3 := fmul_lt h b2 t
      rw [impl_Field_reduce.l4d_eq, if_pos (by rw [up_length]; omega), if_pos (by omega), if_pos (by rw [up_length, cl]; omega), if_pos (by rw [up_length]; omega), up_getD (ln := v) (show j < v.length by omega), i_mul_v h ht b2, bind_some', up_getD (ln := curr (fun i => u.getD i 0 ^^^ fmul M P (v.getD i 0) t) u j) (by rw [cl]; exact hj), curr_get hj, wrS hj (by omega), fmul_comm h ht b2, bxor (by omega) (by omega), Int.toNat_natCast, up_set, curr_set (h := fun i => u.getD i 0 ^^^ fmul M P (v.getD i 0) t) hj]
      exact e
  have := key 0 (by omega)
  rw [show curr (fun i => u.getD i 0 ^^^ fmul M P (v.getD i 0) t) u 0 = u from by simp [curr]] at this
  exact this
theorem inv_lt {M P a : Nat} (h : validB (M : Int) (P : Int) = true) (ha : a < 2 ^ M) : npow M P a (2 ^ M - 2) < 2 ^ M := npow_lt h ha _
/-- what both find: -1, or the first row's place behind at -/
theorem search_both {M P N : Nat} {L : List (List Nat)} (hL : Good M N L) (hN : N ≤ 5) (hn : L.length ≤ 10) {d c : Nat} (hd : d ≤ L.length) (hc : c < N) :
    ∃ t : Int, slices_IndexFunc_int64_int64_AT_impl_Field_reduce_1.d ((L.map up).drop d) (c : Int) = some t ∧ (t < 0 → t = -1) ∧ (0 ≤ t → d + t.toNat < L.length) ∧
      spec_l04Echelon.l2d (N : Int) (L.map up) (d : Int) (c : Int) (d : Int) (M : Int) (P : Int) = spec_l04Echelon.j3d (N : Int) (L.map up) (d : Int) (c : Int) (if t < 0 then (L.length : Int) else (d : Int) + t) (M : Int) (P : Int) := by
  have hdl : ((L.map up).drop d).length = L.length - d := by rw [List.length_drop, List.length_map]
  have key : ∀ i, i ≤ L.length - d → ∃ t : Int, slices_IndexFunc_int64_int64_AT_impl_Field_reduce_1.l0d ((L.map up).drop d) (((L.map up).drop d).length : Int) (i : Int) (c : Int) = some t ∧ (t < 0 → t = -1) ∧ (0 ≤ t → d + t.toNat < L.length) ∧
      spec_l04Echelon.l2d (N : Int) (L.map up) (d : Int) (c : Int) ((d + i : Nat) : Int) (M : Int) (P : Int) = spec_l04Echelon.j3d (N : Int) (L.map up) (d : Int) (c : Int) (if t < 0 then (L.length : Int) else (d : Int) + t) (M : Int) (P : Int) := by
    apply down
    · refine ⟨-1, by rw [slices_IndexFunc_int64_int64_AT_impl_Field_reduce_1.l0d_eq, if_neg (by omega)], fun _ => rfl, fun z => absurd z (by decide), ?_⟩
      rw [spec_l04Echelon.l2d_eq, if_neg (by rw [List.length_map]; omega), if_pos (by decide), show d + (L.length - d) = L.length by omega]
    · intro i hi ⟨t, e1, t1, t2, e2⟩
      have hi' : d + i < L.length := by omega
      have hg := getD_good hL hi'
      have e3 : rd_L1 ((L.map up).drop d) (i : Int) = up (L.getD (d + i) []) := by
        rw [frL (by omega)]
        simp [List.getD, hi']
      have hcl : (c : Int) < ((up (L.getD (d + i) [])).length : Int) := by rw [up_length, hg.1]; omega
      have e4 : impl_Field_reduce_1.f (up (L.getD (d + i) [])) (c : Int) = some (rd (up (L.getD (d + i) [])) (c : Int) != 0) := by
        unfold impl_Field_reduce_1.f
        rw [if_pos (by omega), if_pos hcl]
      have s1 : slices_IndexFunc_int64_int64_AT_impl_Field_reduce_1.l0d ((L.map up).drop d) (((L.map up).drop d).length : Int) (i : Int) (c : Int) = if (rd (up (L.getD (d + i) [])) (c : Int) != 0) = true then some (i : Int) else slices_IndexFunc_int64_int64_AT_impl_Field_reduce_1.l0d ((L.map up).drop d) (((L.map up).drop d).length : Int) ((i + 1 : Nat) : Int) (c : Int) := by
        rw [slices_IndexFunc_int64_int64_AT_impl_Field_reduce_1.l0d_eq, if_pos (by omega), if_pos (by omega), if_pos (by omega), e3, e4, bind_some', wrS hi (by omega)]
      have s2 : spec_l04Echelon.l2d (N : Int) (L.map up) (d : Int) (c : Int) ((d + i : Nat) : Int) (M : Int) (P : Int) = if rd (up (L.getD (d + i) [])) (c : Int) = 0 then spec_l04Echelon.l2d (N : Int) (L.map up) (d : Int) (c : Int) ((d + i + 1 : Nat) : Int) (M : Int) (P : Int) else spec_l04Echelon.j3d (N : Int) (L.map up) (d : Int) (c : Int) ((d + i : Nat) : Int) (M : Int) (P : Int) := by
        rw [spec_l04Echelon.l2d_eq, if_pos (by rw [List.length_map]; omega), if_pos (by omega), if_pos (by omega), rdL hi', if_pos hcl, wrS hi' (by omega)]
      rw [s1, s2]
      by_cases z : rd (up (L.getD (d + i) [])) (c : Int) = 0
      · rw [if_pos z, if_neg (by rw [z]; decide)]
        exact ⟨t, e1, t1, t2, e2⟩
      · rw [if_neg z, if_pos (bne_iff_ne.mpr z)]
        refine ⟨(i : Int), rfl, fun q => by omega, fun _ => by omega, ?_⟩
        rw [if_neg (by omega), show ((d + i : Nat) : Int) = (d : Int) + (i : Int) by omega]
  obtain ⟨t, e1, t1, t2, e2⟩ := key 0 (by omega)
  exact ⟨t, by rw [slices_IndexFunc_int64_int64_AT_impl_Field_reduce_1.d_eq]; exact e1, t1, t2, e2⟩
theorem cols_both {M P N : Nat} (h : validB (M : Int) (P : Int) = true) (hN : N ≤ 5) {n : Nat} (hn : n ≤ 10) : ∀ c, c ≤ N → ∀ (L : List (List Nat)), L.length = n → Good M N L → ∀ d, d ≤ n →
    ∃ R : List (List Nat), R.length ≤ n ∧ Good M N R ∧ spec_l04Echelon.l1d (N : Int) (L.map up) (d : Int) (c : Int) (M : Int) (P : Int) = some (R.map up) ∧ impl_Field_reduce.l1d (L.map up) (d : Int) (N : Int) (c : Int) (M : Int) (P : Int) = some (R.map up) := by
  apply down
  · intro L hl hL d hd
    refine ⟨L.take d, by rw [List.length_take]; omega, fun r hr => hL r (List.mem_of_mem_take hr), ?_, ?_⟩
    · rw [spec_l04Echelon.l1d_eq, if_neg (by omega), if_pos (by omega), if_pos (by rw [List.length_map]; omega), Int.toNat_natCast, List.map_take]
    · rw [impl_Field_reduce.l1d_eq, if_neg (by omega), if_pos (by omega), if_pos (by rw [List.length_map]; omega), Int.toNat_natCast, List.map_take]
  · intro c hc IH L hl hL d hd
    have hcw : wrap64 ((c : Int) + 1) = ((c + 1 : Nat) : Int) := wrS hc (by omega)
    -- the rows, one by one
    have rows : d < n → ∀ i, i ≤ n → ∀ (L : List (List Nat)), L.length = n → Good M N L → ∃ R : List (List Nat), R.length ≤ n ∧ Good M N R ∧
        spec_l04Echelon.l3d (N : Int) (L.map up) (d : Int) (c : Int) (i : Int) (M : Int) (P : Int) = some (R.map up) ∧ impl_Field_reduce.l3d (L.map up) (d : Int) (N : Int) (c : Int) (n : Int) (i : Int) (M : Int) (P : Int) = some (R.map up) := by
      intro hdn
      have hdw : wrap64 ((d : Int) + 1) = ((d + 1 : Nat) : Int) := wrS hdn (by omega)
      apply down
      · intro L hl hL
        rw [spec_l04Echelon.l3d_eq, if_neg (by rw [List.length_map]; omega), impl_Field_reduce.l3d_eq, if_neg (by omega), hcw, hdw]
        exact IH L hl hL (d + 1) (by omega)
      · intro i hi ih L hl hL
        have hw : wrap64 ((i : Int) + 1) = ((i + 1 : Nat) : Int) := wrS hi (by omega)
        have gi := getD_good hL (show i < L.length by omega)
        have gd := getD_good hL (show d < L.length by omega)
        have hci : (c : Int) < ((up (L.getD i [])).length : Int) := by rw [up_length, gi.1]; omega
        have i3 : impl_Field_reduce.l3d (L.map up) (d : Int) (N : Int) (c : Int) (n : Int) (i : Int) (M : Int) (P : Int) = impl_Field_reduce.j4d (L.map up) (d : Int) (N : Int) (c : Int) (n : Int) (i : Int) (if (i : Int) = (d : Int) then false else (rd (up (L.getD i [])) (c : Int) != 0)) (M : Int) (P : Int) := by
          rw [impl_Field_reduce.l3d_eq, if_pos (by omega), if_pos (by omega), if_pos (by rw [List.length_map]; omega), if_pos (by omega), rdL (by omega), if_pos hci]
          split <;> rfl
        have s3 : spec_l04Echelon.l3d (N : Int) (L.map up) (d : Int) (c : Int) (i : Int) (M : Int) (P : Int) = if (i : Int) = (d : Int) then spec_l04Echelon.l3d (N : Int) (L.map up) (d : Int) (c : Int) ((i + 1 : Nat) : Int) (M : Int) (P : Int) else
            if rd (up (L.getD i [])) (c : Int) = 0 then spec_l04Echelon.l3d (N : Int) (L.map up) (d : Int) (c : Int) ((i + 1 : Nat) : Int) (M : Int) (P : Int) else
            (spec_l04Add.d (M : Int) (P : Int) (up (L.getD i [])) (up (L.getD d [])) (rd (up (L.getD i [])) (c : Int))).bind fun t182 => spec_l04Echelon.l3d (N : Int) ((L.map up).set (i : Int).toNat t182) (d : Int) (c : Int) ((i + 1 : Nat) : Int) (M : Int) (P : Int) := by
          rw [spec_l04Echelon.l3d_eq, if_pos (by rw [List.length_map]; omega), hw]
          by_cases a : (i : Int) = (d : Int)
          · rw [if_pos a, if_pos a]
          · rw [if_neg a, if_neg a, if_pos (by omega), if_pos (by omega), rdL (by omega), if_pos hci]
            by_cases z : rd (up (L.getD i [])) (c : Int) = 0
            · rw [if_pos z, if_pos z]
            · rw [if_neg z, if_neg z, if_pos (by omega), if_pos (by rw [List.length_map]; omega), rdL (show d < L.length by omega)]
        rw [s3, i3]
        by_cases a : (i : Int) = (d : Int)
        · rw [if_pos a, if_pos a, impl_Field_reduce.j4d_eq, if_neg (by decide), hw]
          exact ih L hl hL
        · rw [if_neg a, if_neg a]
          by_cases z : rd (up (L.getD i [])) (c : Int) = 0
          · rw [if_pos z, impl_Field_reduce.j4d_eq, if_neg (by rw [z]; decide), hw]
            exact ih L hl hL
          · have eb := up_getD (ln := L.getD i []) (i := c) (by rw [gi.1]; exact hc)
            have hb := gi.2 _ (getD_mem (show c < (L.getD i []).length by rw [gi.1]; exact hc))
            have i4 : impl_Field_reduce.j4d (L.map up) (d : Int) (N : Int) (c : Int) (n : Int) (i : Int) (rd (up (L.getD i [])) (c : Int) != 0) (M : Int) (P : Int) = impl_Field_reduce.l3d ((L.map up).set (i : Int).toNat (up (addr M P ((L.getD i []).getD c 0) (L.getD i []) (L.getD d [])))) (d : Int) (N : Int) (c : Int) (n : Int) (wrap64 ((i : Int) + 1)) (M : Int) (P : Int) := by
              rw [impl_Field_reduce.j4d_eq, if_pos (bne_iff_ne.mpr z), if_pos (by omega), if_pos (by rw [List.length_map]; omega), rdL (show d < L.length by omega), rdL (show i < L.length by omega), eb, i_add_v h hN hb gi gd]
            rw [if_neg z, i4, hw, eb, s_addr_v h hN hb gi gd, bind_some', Int.toNat_natCast, mup_set]
            exact ih _ (by rw [List.length_set]; exact hl) (set_good hL (addr_good h gi gd) i)
    obtain ⟨t, e1, t1, t2, e2⟩ := search_both (P := P) hL hN (by omega) (show d ≤ L.length by omega) hc
    by_cases a : t < 0
    · obtain ⟨R, r1, r2, r3, r4⟩ := IH L hl hL d hd
      refine ⟨R, r1, r2, ?_, ?_⟩
      · rw [spec_l04Echelon.l1d_eq, if_pos (by omega), e2, if_pos a, spec_l04Echelon.j3d_eq, if_pos (by rw [List.length_map]), hcw]
        exact r3
      · rw [impl_Field_reduce.l1d_eq, if_pos (by omega), if_pos (by omega), if_pos (by rw [List.length_map]; omega), Int.toNat_natCast, e1, bind_some', if_pos a, hcw]
        exact r4
    · skip
      have hk := t2 (by omega)
      obtain ⟨k, hkt⟩ : ∃ k : Nat, (d : Int) + t = (k : Int) := ⟨d + t.toNat, by omega⟩
      have hkl : k < L.length := by omega
      have hdl : d < L.length := by omega
      have gk := getD_good hL hkl
      have gd := getD_good hL hdl
      have hck : c < (L.getD k []).length := by rw [gk.1]; exact hc
      have hck' : (c : Int) < ((up (L.getD k [])).length : Int) := by rw [up_length]; omega
      have hb := gk.2 _ (getD_mem hck)
      have hi := inv_lt h hb
      have sw : swpR (L.map up) (d : Int) (k : Int) = ((L.set d (L.getD k [])).set k (L.getD d [])).map up := by
        unfold swpR
        rw [rdL hkl, rdL hdl, Int.toNat_natCast, Int.toNat_natCast, mup_set, mup_set]
      have swl : ((L.set d (L.getD k [])).set k (L.getD d [])).length = n := by rw [List.length_set, List.length_set]; exact hl
      have swg : Good M N ((L.set d (L.getD k [])).set k (L.getD d [])) := set_good (set_good hL gk d) gd k
      have swd : ((L.set d (L.getD k [])).set k (L.getD d [])).getD d [] = L.getD k [] := by
        by_cases z : k = d
        · subst z; simp [List.getD, hkl]
        · rw [List.getD_eq_getElem?_getD, List.getElem?_set_ne (by omega), List.getElem?_set_self hdl]; rfl
      have same : (((L.set d (L.getD k [])).set k (L.getD d [])).set d (sclr M P (npow M P ((L.getD k []).getD c 0) (2 ^ M - 2)) (L.getD k []))) = ((L.set k (L.getD d [])).set d (addr M P (npow M P ((L.getD k []).getD c 0) (2 ^ M - 2)) (List.replicate N 0) (L.getD k []))) := by
        have e : addr M P (npow M P ((L.getD k []).getD c 0) (2 ^ M - 2)) (List.replicate N 0) (L.getD k []) = sclr M P (npow M P ((L.getD k []).getD c 0) (2 ^ M - 2)) (L.getD k []) := by
          unfold addr sclr
          rw [List.length_replicate, gk.1]
          apply List.map_congr_left
          intro i hi
          have := List.mem_range.mp hi
          simp [List.getD, this]
        rw [e]
        apply List.ext_getElem
        · simp
        · intro i h1 h2
          simp only [List.getElem_set]
          by_cases z : d = i
          · rw [if_pos z, if_pos z]
          · rw [if_neg z, if_neg z]
            by_cases z' : k = i
            · rw [if_pos z', if_neg z]; try rw [if_pos z']
            · rw [if_neg z', if_neg z]; try rw [if_neg z']
      have rep : List.replicate (N : Int).toNat (0 : Int) = up (List.replicate N 0) := by rw [Int.toNat_natCast]; simp [up]
      have zg : (List.replicate N 0).length = N ∧ ∀ x ∈ List.replicate N 0, x < 2 ^ M := ⟨by simp, fun x hx => by rw [(List.mem_replicate.mp hx).2]; exact Nat.two_pow_pos M⟩
      have eb := up_getD (ln := L.getD k []) (i := c) hck
      have hdn : d < n := by omega
      obtain ⟨R, r1, r2, r3, r4⟩ := rows hdn 0 (by omega) (((L.set d (L.getD k [])).set k (L.getD d [])).set d (sclr M P (npow M P ((L.getD k []).getD c 0) (2 ^ M - 2)) (L.getD k []))) (by rw [List.length_set]; exact swl) (set_good swg (sclr_good h gk) d)
      refine ⟨R, r1, r2, ?_, ?_⟩
      · rw [spec_l04Echelon.l1d_eq, if_pos (by omega), e2, if_neg a, hkt, spec_l04Echelon.j3d_eq, if_neg (by rw [List.length_map]; omega), if_pos (by omega), if_pos (by rw [List.length_map]; omega), if_pos (by omega), if_pos (by rw [List.length_map]; omega), if_pos (by omega), if_pos (by omega), if_pos (by omega), rdL hkl, if_pos hck', eb, s_inv_v h hb, bind_some', rep, s_addr_v h hN hi zg gk, bind_some', rdL hdl, Int.toNat_natCast, Int.toNat_natCast, mup_set, mup_set, ← same]
        exact r3
      · rw [impl_Field_reduce.l1d_eq, if_pos (by omega), if_pos (by omega), if_pos (by rw [List.length_map]; omega), Int.toNat_natCast, e1, bind_some', if_neg a, if_pos (by rw [List.length_map]; omega), hkt, wr (by omega) (by omega), if_pos (by omega), if_pos (by rw [List.length_map]; omega), if_pos (by omega), sw, rdL (by omega), swd, if_pos hck', eb, i_inv_v h hb, bind_some', i_scl_v h hN hi gk, Int.toNat_natCast, mup_set, List.length_map, swl]
        exact r4
/-- the echelon form: both sides have the same one -/
theorem ech_both {M P N : Nat} (h : validB (M : Int) (P : Int) = true) (hN : N ≤ 5) {L : List (List Nat)} (hn : L.length ≤ 10) (hL : Good M N L) :
    ∃ R : List (List Nat), R.length ≤ 10 ∧ Good M N R ∧ spec_l04Echelon.d (M : Int) (P : Int) (N : Int) (L.map up) = some (R.map up) ∧ impl_Field_reduce.d (M : Int) (P : Int) (N : Int) (L.map up) = some (R.map up) := by
  obtain ⟨R, r1, r2, r3, r4⟩ := cols_both h hN hn 0 (by omega) L rfl hL 0 (by omega)
  refine ⟨R, by omega, r2, ?_, ?_⟩
  · rw [spec_l04Echelon.d_eq]
    refine build_gen (F := fun i acc => spec_l04Echelon.l0d (N : Int) (L.map up) acc i (M : Int) (P : Int)) (n := L.length) (g := fun i => up (L.getD i [])) ?_ ?_
    · intro i hi acc ha
      show spec_l04Echelon.l0d (N : Int) (L.map up) acc (i : Int) (M : Int) (P : Int) = _
      have gi := getD_good hL hi
      have e : spec_l00Own.f (up (L.getD i [])) = some (up (L.getD i [])) := by
        unfold spec_l00Own.f
        rw [bind_some', if_pos (by rw [up_length]; simp only [List.length_nil]; omega), List.nil_append]
      rw [spec_l04Echelon.l0d_eq, if_pos (by rw [List.length_map]; omega), if_pos (by omega), rdL hi, e, bind_some', if_pos (by omega), wrS hi (by omega)]
    · show spec_l04Echelon.l0d (N : Int) (L.map up) _ (L.length : Int) (M : Int) (P : Int) = _
      rw [spec_l04Echelon.l0d_eq, if_neg (by rw [List.length_map]; omega), show (List.range L.length).map (fun i => up (L.getD i [])) = L.map up from by
        apply List.ext_getElem
        · simp
        · intro i h1 h2
          simp only [List.length_map, List.length_range] at h1
          simp [List.getD, h1]]
      exact r3
  · rw [impl_Field_reduce.d_eq]
    refine build_gen (F := fun i acc => impl_Field_reduce.l0d (N : Int) acc 0 (L.map up) ((L.map up).length : Int) i (M : Int) (P : Int)) (n := L.length) (g := fun i => up (L.getD i [])) ?_ ?_
    · intro i hi acc ha
      show impl_Field_reduce.l0d (N : Int) acc 0 (L.map up) ((L.map up).length : Int) (i : Int) (M : Int) (P : Int) = _
      have gi := getD_good hL hi
      have e : slices_Clone_int64_int64.f (up (L.getD i [])) = some (up (L.getD i [])) := by
        unfold slices_Clone_int64_int64.f
        rw [if_pos (by rw [up_length]; omega)]
      rw [impl_Field_reduce.l0d_eq, if_pos (by rw [List.length_map]; omega), if_pos (by omega), if_pos (by rw [List.length_map]; omega), rdL hi, e, bind_some', if_pos (by omega), wrS hi (by omega)]
    · show impl_Field_reduce.l0d (N : Int) _ 0 (L.map up) ((L.map up).length : Int) (L.length : Int) (M : Int) (P : Int) = _
      rw [impl_Field_reduce.l0d_eq, if_neg (by rw [List.length_map]; omega), show (List.range L.length).map (fun i => up (L.getD i [])) = L.map up from by
        apply List.ext_getElem
        · simp
        · intro i h1 h2
          simp only [List.length_map, List.length_range] at h1
          simp [List.getD, h1]]
      exact r4
/-- The echelon form as the law has it: the same rows and the same code. -/
theorem FieldEchelon_both (m p c : Int) {l : List (List Int)} (hx : ∀ x ∈ l, x.length ≤ 1048576) :
    ∃ (R : List (List Int)) (v : Int), R.length ≤ 10 ∧ (∀ x ∈ R, x.length ≤ 5) ∧ (rowsCode m p c l = 0 → v = 0 ∧ spec_l04Echelon.d m p c l = some R ∧ impl_Field_reduce.d m p c l = some R) ∧ (rowsCode m p c l ≠ 0 → R = [] ∧ v = rowsCode m p c l) := by
  by_cases h : rowsCode m p c l = 0
  · obtain ⟨M, P, N, L, rfl, rfl, rfl, hN, hv, rfl, hn, hL⟩ := rows_good h
    obtain ⟨R, r1, r2, r3, r4⟩ := ech_both hv hN hn hL
    refine ⟨R.map up, 0, by rw [List.length_map]; exact r1, fun x hx => ?_, fun _ => ⟨rfl, r3, r4⟩, fun z => absurd h z⟩
    obtain ⟨r, hr, rfl⟩ := List.mem_map.mp hx
    rw [up_length, (r2 r hr).1]; exact hN
  · exact ⟨[], rowsCode m p c l, by decide, fun _ hx => absurd hx List.not_mem_nil, fun z => absurd z h, fun _ => ⟨rfl, rfl⟩⟩
end Go.Proofs.Ytbalkaphibnpcaa.P
end
section
namespace Go.Proofs.Ytbalkaphibnpcaa.P
open Go.RowKit Go.Proofs.YtbalkaphibnpcaaW.PrintWords Go.Proofs.YtbalkaphibnpcaaW.PrintLast Go.Proofs.YtbalkaphibnpcaaW.PrintMore
set_option linter.unusedVariables false
set_option linter.unusedSimpArgs false
theorem FieldEchelon_r (m p c : Int) {l : List (List Int)} (hx : ∀ x ∈ l, x.length ≤ 1048576) : ∃ r : List (List Int) × Int, r.1.length ≤ 10 ∧ (∀ x ∈ r.1, x.length ≤ 5) ∧ spec_FieldEchelon.d m p c l = some r ∧ impl_FieldEchelon.d m p c l = some r := by
  obtain ⟨R, v, r1, r2, r3, r4⟩ := FieldEchelon_both m p c hx
  rw [spec_FieldEchelon.d_eq, impl_FieldEchelon.d_eq, s_rows_v m p c hx, i_rows_v m p c hx, bind_some', bind_some']
  by_cases h : rowsCode m p c l = 0
  · obtain ⟨rfl, e1, e2⟩ := r3 h
    rw [if_pos h, if_pos h, e1, e2, bind_some']
    exact ⟨(R, 0), r1, r2, rfl, rfl⟩
  · rw [if_neg h, if_neg h]
    exact ⟨([], _), by simp, fun _ hx => absurd hx List.not_mem_nil, rfl, rfl⟩
theorem FieldEchelon_law (m p c : Int) (l : List (List Int)) (h3 : l.length ≤ maxLen) (h4 : ∀ x ∈ l, x.length ≤ maxLen ∧ ∀ y ∈ x, (Lit.int .i64 y).wf = true) : laws_FnExactFieldEchelon.d m p c l = some true := by
  obtain ⟨t, e, t1, ht⟩ := szInt64SS_v (s := 1048576) (by decide) (by decide) h3 fun x hx => (h4 x hx).1
  rw [laws_FnExactFieldEchelon.d_eq, e, bind_some']
  by_cases hneg : t < 0
  · rw [if_pos hneg]
  · obtain ⟨hl, hx⟩ := ht (by omega)
    obtain ⟨⟨R, z⟩, r1, r2, e1, e2⟩ := FieldEchelon_r m p c hx
    have r1' : R.length ≤ 10 := r1
    have r2' : ∀ x ∈ R, x.length ≤ 5 := r2
    have rl : R.length ≤ 1048576 := by omega
    have rx : ∀ x ∈ R, x.length ≤ 1048576 := fun x h => Nat.le_trans (r2' x h) (by decide)
    have tf : laws_toField.f m p = some (m, p) := rfl
    have ti := toInt64SS_v hl hx
    have es := eqInt64SS_self rl rx
    have t2 := tally_big hl hx 1
    have t3 := tally_big rl rx 1
    have mk := markInt64SS_v hl hx (a := 1) (by omega) (by omega)
    have mg := markInt64SS_v rl rx (a := 1) (by omega) (by omega)
    have hg := heldInt64SS_v rl rx (a := 1) (by omega) (by omega)
    rw [if_neg hneg, tf, bind_some', ti, bind_some', e1, bind_some', bind_some', bind_some', e2, bind_some', es, bind_some', if_pos rfl, laws_FnExactFieldEchelon.j0d_eq, if_neg (by simp), ti, bind_some', eqInt64SS_self hl hx, bind_some', if_pos rfl, mk, bind_some',
      if_neg (by show ¬ (tally l 1).2 < 0; omega), es, bind_some', if_pos rfl, laws_FnExactFieldEchelon.j1d_eq, if_neg (by simp), mg, bind_some']
    dsimp only
    rw [hg, bind_some', if_neg (by omega), if_pos rfl, tf, bind_some', ti, bind_some', e2, bind_some', es, bind_some', if_pos rfl, laws_FnExactFieldEchelon.j2d_eq, if_neg (by simp), hg, bind_some', if_neg (by omega), if_pos rfl]
end Go.Proofs.Ytbalkaphibnpcaa.P
end
section
namespace Go.Proofs.Ytbalkaphibnpcaa.P
open Go.RowKit Go.Proofs.YtbalkaphibnpcaaW.PrintWords Go.Proofs.YtbalkaphibnpcaaW.PrintLast Go.Proofs.YtbalkaphibnpcaaW.PrintMore
/-- The one pure statement of laws_FnExactFieldEchelon. -/
def laws_FnExactFieldEchelon.Pure : Prop := ∀ (a0_0 : Int) (a0_1 : Int) (a1 : Int) (l2 : List (List Int)), ((Lit.int .i64 a0_0).wf = true) → ((Lit.int .i64 a0_1).wf = true) → ((Lit.int .i64 a1).wf = true) → (l2.length ≤ maxLen) → (∀ x ∈ l2, x.length ≤ maxLen ∧ ∀ y ∈ x, (Lit.int .i64 y).wf = true) → ∃ k, laws_FnExactFieldEchelon.f k a0_0 a0_1 a1 l2 = some true
end Go.Proofs.Ytbalkaphibnpcaa.P
end
section
namespace Go.Proofs.Ytbalkaphibnpcaa.Pure
theorem FnExactFieldEchelon : P.laws_FnExactFieldEchelon.Pure := fun a0_0 a0_1 a1 l2 _ _ _ h3_ h4_ => P.IsLim.some_ (P.laws_FnExactFieldEchelon.lim a0_0 a0_1 a1 l2) (P.FieldEchelon_law a0_0 a0_1 a1 l2 h3_ h4_)
end Go.Proofs.Ytbalkaphibnpcaa.Pure
end
