/- What the functions of the law FnExactMatrixText tell without rounds, and its pure statement. -/
import Derived.Test.YtgkmhpmlilcjaaaDoorPx0
import Derived.Test.YtgkmhpmlilcjaaaDoorPx1
import Derived.Test.YtgkmhpmlilcjaaaDoorPx2
import Derived.Test.YtgkmhpmlilcjaaaDoorPx3
import Derived.Test.YtgkmhpmlilcjaaaDoorPx4
import Derived.Test.YtgkmhpmlilcjaaaDoorPx5
import Derived.ProofKit
section
namespace Go.Proofs.YtgkmhpmlilcjaaaDoor.P
open Go.RowKit Go.Proofs.YtgkmhpmlilcjaaaDoorW.PrintWords Go.Proofs.YtgkmhpmlilcjaaaDoorW.PrintLast Go.Proofs.YtgkmhpmlilcjaaaDoorW.PrintMore
def IsLim {α : Type} (g : Nat → Option α) (v : Option α) : Prop := (∀ k, LeO (g k) (g (k + 1))) ∧ ∀ r, v = some r ↔ ∃ k, g k = some r
theorem leO_le {α : Type} {g : Nat → Option α} (h : ∀ k, LeO (g k) (g (k + 1))) {j k : Nat} (hjk : j ≤ k) : LeO (g j) (g k) := by
  induction hjk with
  | refl => exact fun _ e => e
  | step _ ih => exact fun r e => h _ r (ih r e)
open Classical in
noncomputable def lim {α : Type} (g : Nat → Option α) : Option α := if h : ∃ r, ∃ k, g k = some r then some h.choose else none
theorem lim_spec {α : Type} {g : Nat → Option α} (h : ∀ k, LeO (g k) (g (k + 1))) : IsLim g (lim g) := by
  refine ⟨h, fun r => ?_⟩
  unfold lim
  by_cases hx : ∃ r, ∃ k, g k = some r
  · rw [dif_pos hx]
    obtain ⟨k, hk⟩ := hx.choose_spec
    constructor
    · intro e; exact ⟨k, by rw [hk]; exact e⟩
    · rintro ⟨j, hj⟩
      have a := leO_le h (Nat.le_max_left j k) _ hj
      have b := leO_le h (Nat.le_max_right j k) _ hk
      rw [a] at b; exact b.symm
  · rw [dif_neg hx]
    constructor
    · intro e; cases e
    · rintro ⟨k, hk⟩; exact absurd ⟨r, k, hk⟩ hx
theorem IsLim.unique {α : Type} {g : Nat → Option α} {v v' : Option α} (h : IsLim g v) (h' : IsLim g v') : v = v' :=
  Option.ext fun r => (h.2 r).trans (h'.2 r).symm
theorem IsLim.const {α : Type} (v : Option α) : IsLim (fun _ => v) v := ⟨fun _ _ e => e, fun _ => ⟨fun e => ⟨0, e⟩, fun ⟨_, e⟩ => e⟩⟩
theorem IsLim.ite {α : Type} {c : Prop} [Decidable c] {g g' : Nat → Option α} {v v' : Option α} (h : IsLim g v) (h' : IsLim g' v') :
    IsLim (fun k => if c then g k else g' k) (if c then v else v') := by
  by_cases hc : c
  · simp only [if_pos hc]; exact h
  · simp only [if_neg hc]; exact h'
theorem IsLim.bind {α β : Type} {g : Nat → Option α} {v : Option α} {q : Nat → α → Option β} {w : α → Option β}
    (h : IsLim g v) (hq : ∀ x, IsLim (fun k => q k x) (w x)) : IsLim (fun k => (g k).bind (q k)) (v.bind w) := by
  refine ⟨fun k r e => ?_, fun r => ?_⟩
  · obtain ⟨x, hx, hr⟩ := Option.bind_eq_some_iff.mp e
    exact Option.bind_eq_some_iff.mpr ⟨x, h.1 k x hx, (hq x).1 k r hr⟩
  · constructor
    · intro e
      obtain ⟨x, hx, hr⟩ := Option.bind_eq_some_iff.mp e
      obtain ⟨j, hj⟩ := (h.2 x).mp hx
      obtain ⟨k, hk⟩ := ((hq x).2 r).mp hr
      exact ⟨max j k, Option.bind_eq_some_iff.mpr ⟨x, leO_le h.1 (Nat.le_max_left j k) _ hj, leO_le (hq x).1 (Nat.le_max_right j k) _ hk⟩⟩
    · rintro ⟨k, e⟩
      obtain ⟨x, hx, hr⟩ := Option.bind_eq_some_iff.mp e
      exact Option.bind_eq_some_iff.mpr ⟨x, (h.2 x).mpr ⟨k, hx⟩, ((hq x).2 r).mpr ⟨k, hr⟩⟩
theorem IsLim.shift {α : Type} {g : Nat → Option α} {v : Option α} (h0 : g 0 = none) (h : IsLim (fun k => g (k + 1)) v) : IsLim g v := by
  refine ⟨fun k => ?_, fun r => ?_⟩
  · cases k with
    | zero => intro r e; rw [h0] at e; cases e
    | succ k => exact h.1 k
  · rw [h.2 r]
    constructor
    · rintro ⟨k, e⟩; exact ⟨k + 1, e⟩
    · rintro ⟨k, e⟩
      cases k with
      | zero => rw [h0] at e; cases e
      | succ k => exact ⟨k, e⟩
theorem IsLim.some_ {α : Type} {g : Nat → Option α} {v : Option α} {r : α} (h : IsLim g v) (e : v = some r) : ∃ k, g k = some r := (h.2 r).mp e
end Go.Proofs.YtgkmhpmlilcjaaaDoor.P
end
section
namespace Go.Proofs.YtgkmhpmlilcjaaaDoor.P
open Go.RowKit Go.Proofs.YtgkmhpmlilcjaaaDoorW.PrintWords Go.Proofs.YtgkmhpmlilcjaaaDoorW.PrintLast Go.Proofs.YtgkmhpmlilcjaaaDoorW.PrintMore
set_option linter.unusedVariables false
set_option linter.unusedSimpArgs false
noncomputable def spec_l02Ok.j0d (x17 : Bool) (x41000 : Int) (x41001 : List Int) : Option (Bool) := lim (fun k => spec_l02Ok.j0 k x17 x41000 x41001)
theorem spec_l02Ok.j0lim (x17 : Bool) (x41000 : Int) (x41001 : List Int) : IsLim (fun k => spec_l02Ok.j0 k x17 x41000 x41001) (spec_l02Ok.j0d x17 x41000 x41001) := lim_spec (fun k => (spec_l02Ok.mono_l k).1 x17 x41000 x41001)
noncomputable def spec_l02Ok.l0d (x3 : Int) (x41000 : Int) (x41001 : List Int) : Option (Bool) := lim (fun k => spec_l02Ok.l0 k x3 x41000 x41001)
theorem spec_l02Ok.l0lim (x3 : Int) (x41000 : Int) (x41001 : List Int) : IsLim (fun k => spec_l02Ok.l0 k x3 x41000 x41001) (spec_l02Ok.l0d x3 x41000 x41001) := lim_spec (fun k => (spec_l02Ok.mono_l k).2 x3 x41000 x41001)
theorem spec_l02Ok.j0d_eq (x17 : Bool) (x41000 : Int) (x41001 : List Int) : spec_l02Ok.j0d x17 x41000 x41001 = if x17 = true then (some false) else (spec_l02Ok.l0d 0 x41000 x41001) := by
  refine IsLim.unique (spec_l02Ok.j0lim _ _ _) ?_
  refine IsLim.shift (by rfl) ?_
  simp only [spec_l02Ok.j0]
  repeat' (first | exact IsLim.const _ | refine IsLim.ite ?_ ?_ | refine IsLim.bind ?_ (fun _ => ?_) | exact spec_l02Ok.l0lim ..)
theorem spec_l02Ok.l0d_eq (x3 : Int) (x41000 : Int) (x41001 : List Int) : spec_l02Ok.l0d x3 x41000 x41001 = if x3 < (x41001.length : Int) then (if 0 ≤ x3 then (if 0 ≤ (IntKind.u64.wrap (x41000)) then ((spec_l00In.f (rd x41001 x3) 0 (wrap64 ((shl .i64 1 (IntKind.u64.wrap (x41000))) - 1))).bind fun t105 => (if t105 = true then (spec_l02Ok.l0d (wrap64 (x3 + 1)) x41000 x41001) else (some false))) else (none)) else (none)) else (some true) := by
  refine IsLim.unique (spec_l02Ok.l0lim _ _ _) ?_
  refine IsLim.shift (by rfl) ?_
  simp only [spec_l02Ok.l0]
  repeat' (first | exact IsLim.const _ | refine IsLim.ite ?_ ?_ | refine IsLim.bind ?_ (fun _ => ?_) | exact spec_l02Ok.l0lim ..)
noncomputable def spec_l02Ok.d (a0_0 : Int) (l0_1 : List Int) : Option (Bool) := lim (fun k => spec_l02Ok.f k a0_0 l0_1)
theorem spec_l02Ok.lim (a0_0 : Int) (l0_1 : List Int) : IsLim (fun k => spec_l02Ok.f k a0_0 l0_1) (spec_l02Ok.d a0_0 l0_1) := lim_spec (fun k => spec_l02Ok.mono a0_0 l0_1 k)
theorem spec_l02Ok.d_eq (a0_0 : Int) (l0_1 : List Int) : spec_l02Ok.d a0_0 l0_1 = (spec_l00In.f a0_0 1 10).bind fun t103 => (if t103 = true then (spec_l02Ok.j0d (decide ((l0_1.length : Int) > 10)) a0_0 l0_1) else (spec_l02Ok.j0d true a0_0 l0_1)) := by
  refine IsLim.unique (spec_l02Ok.lim _ _) ?_
  unfold spec_l02Ok.f
  repeat' (first | exact IsLim.const _ | refine IsLim.ite ?_ ?_ | refine IsLim.bind ?_ (fun _ => ?_) | exact spec_l02Ok.j0lim ..)
noncomputable def spec_Decimal.d (a0 : Int) : Option (ByteArray) := lim (fun k => spec_Decimal.f k a0)
theorem spec_Decimal.lim (a0 : Int) : IsLim (fun k => spec_Decimal.f k a0) (spec_Decimal.d a0) := lim_spec (fun k => spec_Decimal.mono a0 k)
theorem spec_Decimal.d_eq (a0 : Int) : spec_Decimal.d a0 = if a0 ≥ 10 then ((spec_Decimal.d (wrap64 (Int.tdiv a0 10))).bind fun t106 => ((some (([(wrap64 (48 + (Int.tmod a0 10))) % 256] : List Int) : List Int)).bind fun y107 => (if t106.size + (strOfNums y107).size ≤ 9223372036854775807 then (some (t106 ++ (strOfNums y107))) else (none)))) else (some (strOfNums (([(wrap64 (48 + a0)) % 256] : List Int)))) := by
  refine IsLim.unique (spec_Decimal.lim _) ?_
  refine IsLim.shift (by rfl) ?_
  simp only [spec_Decimal.f]
  repeat' (first | exact IsLim.const _ | refine IsLim.ite ?_ ?_ | refine IsLim.bind ?_ (fun _ => ?_) | exact spec_Decimal.lim ..)
end Go.Proofs.YtgkmhpmlilcjaaaDoor.P
end
section
namespace Go.Proofs.YtgkmhpmlilcjaaaDoor.P
open Go.RowKit Go.Proofs.YtgkmhpmlilcjaaaDoorW.PrintWords Go.Proofs.YtgkmhpmlilcjaaaDoorW.PrintLast Go.Proofs.YtgkmhpmlilcjaaaDoorW.PrintMore
set_option linter.unusedVariables false
set_option linter.unusedSimpArgs false
noncomputable def spec_MatrixText.l0d (x3 : ByteArray) (x4 : Int) (x114000 : Int) (x114001 : List Int) : Option (ByteArray) := lim (fun k => spec_MatrixText.l0 k x3 x4 x114000 x114001)
theorem spec_MatrixText.l0lim (x3 : ByteArray) (x4 : Int) (x114000 : Int) (x114001 : List Int) : IsLim (fun k => spec_MatrixText.l0 k x3 x4 x114000 x114001) (spec_MatrixText.l0d x3 x4 x114000 x114001) := lim_spec (fun k => (spec_MatrixText.mono_l k).1 x3 x4 x114000 x114001)
noncomputable def spec_MatrixText.l1d (x3 : ByteArray) (x4 : Int) (x5 : Int) (x114000 : Int) (x114001 : List Int) : Option (ByteArray) := lim (fun k => spec_MatrixText.l1 k x3 x4 x5 x114000 x114001)
theorem spec_MatrixText.l1lim (x3 : ByteArray) (x4 : Int) (x5 : Int) (x114000 : Int) (x114001 : List Int) : IsLim (fun k => spec_MatrixText.l1 k x3 x4 x5 x114000 x114001) (spec_MatrixText.l1d x3 x4 x5 x114000 x114001) := lim_spec (fun k => (spec_MatrixText.mono_l k).2 x3 x4 x5 x114000 x114001)
theorem spec_MatrixText.l0d_eq (x3 : ByteArray) (x4 : Int) (x114000 : Int) (x114001 : List Int) : spec_MatrixText.l0d x3 x4 x114000 x114001 = if x4 < (x114001.length : Int) then (spec_MatrixText.l1d x3 x4 0 x114000 x114001) else (some x3) := by
  refine IsLim.unique (spec_MatrixText.l0lim _ _ _ _) ?_
  refine IsLim.shift (by rfl) ?_
  simp only [spec_MatrixText.l0]
  repeat' (first | exact IsLim.const _ | refine IsLim.ite ?_ ?_ | refine IsLim.bind ?_ (fun _ => ?_) | exact spec_MatrixText.l1lim ..)
theorem spec_MatrixText.l1d_eq (x3 : ByteArray) (x4 : Int) (x5 : Int) (x114000 : Int) (x114001 : List Int) : spec_MatrixText.l1d x3 x4 x5 x114000 x114001 = if x5 < x114000 then (if 0 ≤ x4 then (if x4 < (x114001.length : Int) then ((spec_l02Bit.f (rd x114001 x4) x5).bind fun t117 => ((spec_Decimal.d t117).bind fun t118 => (if x3.size + t118.size ≤ 9223372036854775807 then (spec_MatrixText.l1d (x3 ++ t118) x4 (wrap64 (x5 + 1)) x114000 x114001) else (none)))) else (none)) else (none)) else (if x3.size + 1 ≤ 9223372036854775807 then (spec_MatrixText.l0d (x3 ++ (⟨#[10]⟩ : ByteArray)) (wrap64 (x4 + 1)) x114000 x114001) else (none)) := by
  refine IsLim.unique (spec_MatrixText.l1lim _ _ _ _ _) ?_
  refine IsLim.shift (by rfl) ?_
  simp only [spec_MatrixText.l1]
  repeat' (first | exact IsLim.const _ | refine IsLim.ite ?_ ?_ | refine IsLim.bind ?_ (fun _ => ?_) | exact spec_Decimal.lim .. | exact spec_MatrixText.l1lim .. | exact spec_MatrixText.l0lim ..)
noncomputable def spec_MatrixText.d (a0_0 : Int) (l0_1 : List Int) : Option (ByteArray) := lim (fun k => spec_MatrixText.f k a0_0 l0_1)
theorem spec_MatrixText.lim (a0_0 : Int) (l0_1 : List Int) : IsLim (fun k => spec_MatrixText.f k a0_0 l0_1) (spec_MatrixText.d a0_0 l0_1) := lim_spec (fun k => spec_MatrixText.mono a0_0 l0_1 k)
theorem spec_MatrixText.d_eq (a0_0 : Int) (l0_1 : List Int) : spec_MatrixText.d a0_0 l0_1 = (spec_l02Ok.d a0_0 l0_1).bind fun t114 => (if t114 = true then ((spec_Decimal.d a0_0).bind fun t115 => (if 7 + t115.size ≤ 9223372036854775807 then (if 7 + t115.size + 1 ≤ 9223372036854775807 then (spec_MatrixText.l0d (((⟨#[109, 97, 116, 114, 105, 120, 32]⟩ : ByteArray) ++ t115) ++ (⟨#[10]⟩ : ByteArray)) 0 a0_0 l0_1) else (none)) else (none))) else (some (⟨#[]⟩ : ByteArray))) := by
  refine IsLim.unique (spec_MatrixText.lim _ _) ?_
  unfold spec_MatrixText.f
  repeat' (first | exact IsLim.const _ | refine IsLim.ite ?_ ?_ | refine IsLim.bind ?_ (fun _ => ?_) | exact spec_l02Ok.lim .. | exact spec_Decimal.lim .. | exact spec_MatrixText.l0lim ..)
noncomputable def laws_toInt64S.l0d (x0 : List Int) (x3 : List Int) (x4 : Int) : Option (List Int) := lim (fun k => laws_toInt64S.l0 k x0 x3 x4)
theorem laws_toInt64S.l0lim (x0 : List Int) (x3 : List Int) (x4 : Int) : IsLim (fun k => laws_toInt64S.l0 k x0 x3 x4) (laws_toInt64S.l0d x0 x3 x4) := lim_spec (fun k => (laws_toInt64S.mono_l k) x0 x3 x4)
theorem laws_toInt64S.l0d_eq (x0 : List Int) (x3 : List Int) (x4 : Int) : laws_toInt64S.l0d x0 x3 x4 = if x4 < (x0.length : Int) then (if 0 ≤ x4 then (if x4 < (x3.length : Int) then (laws_toInt64S.l0d x0 (x3.set (x4 : Int).toNat (rd x0 x4)) (wrap64 (x4 + 1))) else (none)) else (none)) else (some x3) := by
  refine IsLim.unique (laws_toInt64S.l0lim _ _ _) ?_
  refine IsLim.shift (by rfl) ?_
  simp only [laws_toInt64S.l0]
  repeat' (first | exact IsLim.const _ | refine IsLim.ite ?_ ?_ | refine IsLim.bind ?_ (fun _ => ?_) | exact laws_toInt64S.l0lim ..)
noncomputable def laws_toInt64S.d (l0 : List Int) : Option (List Int) := lim (fun k => laws_toInt64S.f k l0)
theorem laws_toInt64S.lim (l0 : List Int) : IsLim (fun k => laws_toInt64S.f k l0) (laws_toInt64S.d l0) := lim_spec (fun k => laws_toInt64S.mono l0 k)
theorem laws_toInt64S.d_eq (l0 : List Int) : laws_toInt64S.d l0 = if 0 ≤ (l0.length : Int) then (if ((l0.length : Int) : Int).toNat ≤ 35184372088832 then (laws_toInt64S.l0d l0 (List.replicate ((l0.length : Int) : Int).toNat 0) 0) else (none)) else (none) := by
  refine IsLim.unique (laws_toInt64S.lim _) ?_
  unfold laws_toInt64S.f
  repeat' (first | exact IsLim.const _ | refine IsLim.ite ?_ ?_ | refine IsLim.bind ?_ (fun _ => ?_) | exact laws_toInt64S.l0lim ..)
noncomputable def laws_toMatrix.d (a0_0 : Int) (l0_1 : List Int) : Option (Int × List Int) := lim (fun k => laws_toMatrix.f k a0_0 l0_1)
theorem laws_toMatrix.lim (a0_0 : Int) (l0_1 : List Int) : IsLim (fun k => laws_toMatrix.f k a0_0 l0_1) (laws_toMatrix.d a0_0 l0_1) := lim_spec (fun k => laws_toMatrix.mono a0_0 l0_1 k)
theorem laws_toMatrix.d_eq (a0_0 : Int) (l0_1 : List Int) : laws_toMatrix.d a0_0 l0_1 = (laws_toInt64S.d l0_1).bind fun t127 => (some (a0_0, t127)) := by
  refine IsLim.unique (laws_toMatrix.lim _ _) ?_
  unfold laws_toMatrix.f
  repeat' (first | exact IsLim.const _ | refine IsLim.ite ?_ ?_ | refine IsLim.bind ?_ (fun _ => ?_) | exact laws_toInt64S.lim ..)
end Go.Proofs.YtgkmhpmlilcjaaaDoor.P
end
section
namespace Go.Proofs.YtgkmhpmlilcjaaaDoor.P
open Go.RowKit Go.Proofs.YtgkmhpmlilcjaaaDoorW.PrintWords Go.Proofs.YtgkmhpmlilcjaaaDoorW.PrintLast Go.Proofs.YtgkmhpmlilcjaaaDoorW.PrintMore
set_option linter.unusedVariables false
set_option linter.unusedSimpArgs false
noncomputable def slices_IndexFunc_int64_int64_AT_impl_ValidMatrix_1.l0d (x0 : List Int) (x7 : Int) (x8 : Int) (x49000 : Int) (x49001 : List Int) : Option (Int) := lim (fun k => slices_IndexFunc_int64_int64_AT_impl_ValidMatrix_1.l0 k x0 x7 x8 x49000 x49001)
theorem slices_IndexFunc_int64_int64_AT_impl_ValidMatrix_1.l0lim (x0 : List Int) (x7 : Int) (x8 : Int) (x49000 : Int) (x49001 : List Int) : IsLim (fun k => slices_IndexFunc_int64_int64_AT_impl_ValidMatrix_1.l0 k x0 x7 x8 x49000 x49001) (slices_IndexFunc_int64_int64_AT_impl_ValidMatrix_1.l0d x0 x7 x8 x49000 x49001) := lim_spec (fun k => (slices_IndexFunc_int64_int64_AT_impl_ValidMatrix_1.mono_l k) x0 x7 x8 x49000 x49001)
theorem slices_IndexFunc_int64_int64_AT_impl_ValidMatrix_1.l0d_eq (x0 : List Int) (x7 : Int) (x8 : Int) (x49000 : Int) (x49001 : List Int) : slices_IndexFunc_int64_int64_AT_impl_ValidMatrix_1.l0d x0 x7 x8 x49000 x49001 = if x8 < x7 then (if 0 ≤ x8 then (if x8 < (x0.length : Int) then ((impl_ValidMatrix_1.f (rd x0 x8) x49000 x49001).bind fun t134 => (if t134 = true then (some x8) else (slices_IndexFunc_int64_int64_AT_impl_ValidMatrix_1.l0d x0 x7 (wrap64 (x8 + 1)) x49000 x49001))) else (none)) else (none)) else (some (-1)) := by
  refine IsLim.unique (slices_IndexFunc_int64_int64_AT_impl_ValidMatrix_1.l0lim _ _ _ _ _) ?_
  refine IsLim.shift (by rfl) ?_
  simp only [slices_IndexFunc_int64_int64_AT_impl_ValidMatrix_1.l0]
  repeat' (first | exact IsLim.const _ | refine IsLim.ite ?_ ?_ | refine IsLim.bind ?_ (fun _ => ?_) | exact slices_IndexFunc_int64_int64_AT_impl_ValidMatrix_1.l0lim ..)
noncomputable def slices_IndexFunc_int64_int64_AT_impl_ValidMatrix_1.d (l0 : List Int) (a1_0 : Int) (l1_1 : List Int) : Option (Int) := lim (fun k => slices_IndexFunc_int64_int64_AT_impl_ValidMatrix_1.f k l0 a1_0 l1_1)
theorem slices_IndexFunc_int64_int64_AT_impl_ValidMatrix_1.lim (l0 : List Int) (a1_0 : Int) (l1_1 : List Int) : IsLim (fun k => slices_IndexFunc_int64_int64_AT_impl_ValidMatrix_1.f k l0 a1_0 l1_1) (slices_IndexFunc_int64_int64_AT_impl_ValidMatrix_1.d l0 a1_0 l1_1) := lim_spec (fun k => slices_IndexFunc_int64_int64_AT_impl_ValidMatrix_1.mono l0 a1_0 l1_1 k)
theorem slices_IndexFunc_int64_int64_AT_impl_ValidMatrix_1.d_eq (l0 : List Int) (a1_0 : Int) (l1_1 : List Int) : slices_IndexFunc_int64_int64_AT_impl_ValidMatrix_1.d l0 a1_0 l1_1 = slices_IndexFunc_int64_int64_AT_impl_ValidMatrix_1.l0d l0 (l0.length : Int) 0 a1_0 l1_1 := by
  refine IsLim.unique (slices_IndexFunc_int64_int64_AT_impl_ValidMatrix_1.lim _ _ _) ?_
  unfold slices_IndexFunc_int64_int64_AT_impl_ValidMatrix_1.f
  repeat' (first | exact IsLim.const _ | refine IsLim.ite ?_ ?_ | refine IsLim.bind ?_ (fun _ => ?_) | exact slices_IndexFunc_int64_int64_AT_impl_ValidMatrix_1.l0lim ..)
noncomputable def slices_ContainsFunc_int64_int64_AT_impl_ValidMatrix_1.d (l0 : List Int) (a1_0 : Int) (l1_1 : List Int) : Option (Bool) := lim (fun k => slices_ContainsFunc_int64_int64_AT_impl_ValidMatrix_1.f k l0 a1_0 l1_1)
theorem slices_ContainsFunc_int64_int64_AT_impl_ValidMatrix_1.lim (l0 : List Int) (a1_0 : Int) (l1_1 : List Int) : IsLim (fun k => slices_ContainsFunc_int64_int64_AT_impl_ValidMatrix_1.f k l0 a1_0 l1_1) (slices_ContainsFunc_int64_int64_AT_impl_ValidMatrix_1.d l0 a1_0 l1_1) := lim_spec (fun k => slices_ContainsFunc_int64_int64_AT_impl_ValidMatrix_1.mono l0 a1_0 l1_1 k)
theorem slices_ContainsFunc_int64_int64_AT_impl_ValidMatrix_1.d_eq (l0 : List Int) (a1_0 : Int) (l1_1 : List Int) : slices_ContainsFunc_int64_int64_AT_impl_ValidMatrix_1.d l0 a1_0 l1_1 = (slices_IndexFunc_int64_int64_AT_impl_ValidMatrix_1.d l0 a1_0 l1_1).bind fun t135 => (some (decide (t135 ≥ 0))) := by
  refine IsLim.unique (slices_ContainsFunc_int64_int64_AT_impl_ValidMatrix_1.lim _ _ _) ?_
  unfold slices_ContainsFunc_int64_int64_AT_impl_ValidMatrix_1.f
  repeat' (first | exact IsLim.const _ | refine IsLim.ite ?_ ?_ | refine IsLim.bind ?_ (fun _ => ?_) | exact slices_IndexFunc_int64_int64_AT_impl_ValidMatrix_1.lim ..)
noncomputable def impl_ValidMatrix.d (a0_0 : Int) (l0_1 : List Int) : Option (Bool) := lim (fun k => impl_ValidMatrix.f k a0_0 l0_1)
theorem impl_ValidMatrix.lim (a0_0 : Int) (l0_1 : List Int) : IsLim (fun k => impl_ValidMatrix.f k a0_0 l0_1) (impl_ValidMatrix.d a0_0 l0_1) := lim_spec (fun k => impl_ValidMatrix.mono a0_0 l0_1 k)
theorem impl_ValidMatrix.d_eq (a0_0 : Int) (l0_1 : List Int) : impl_ValidMatrix.d a0_0 l0_1 = (impl_within.f a0_0 1 10).bind fun t137 => (if t137 = true then (if (l0_1.length : Int) ≤ 10 then ((slices_ContainsFunc_int64_int64_AT_impl_ValidMatrix_1.d l0_1 a0_0 l0_1).bind fun t138 => (some (!t138))) else (some false)) else (some false)) := by
  refine IsLim.unique (impl_ValidMatrix.lim _ _) ?_
  unfold impl_ValidMatrix.f
  repeat' (first | exact IsLim.const _ | refine IsLim.ite ?_ ?_ | refine IsLim.bind ?_ (fun _ => ?_) | exact slices_ContainsFunc_int64_int64_AT_impl_ValidMatrix_1.lim ..)
noncomputable def impl_MatrixText.l0d (x3 : ByteArray) (x16 : List Int) (x17 : Int) (x18 : Int) (x140000 : Int) (x140001 : List Int) : Option (ByteArray) := lim (fun k => impl_MatrixText.l0 k x3 x16 x17 x18 x140000 x140001)
theorem impl_MatrixText.l0lim (x3 : ByteArray) (x16 : List Int) (x17 : Int) (x18 : Int) (x140000 : Int) (x140001 : List Int) : IsLim (fun k => impl_MatrixText.l0 k x3 x16 x17 x18 x140000 x140001) (impl_MatrixText.l0d x3 x16 x17 x18 x140000 x140001) := lim_spec (fun k => (impl_MatrixText.mono_l k).1 x3 x16 x17 x18 x140000 x140001)
noncomputable def impl_MatrixText.l1d (x3 : ByteArray) (x5 : Int) (x16 : List Int) (x17 : Int) (x18 : Int) (x23 : Int) (x24 : Int) (x140000 : Int) (x140001 : List Int) : Option (ByteArray) := lim (fun k => impl_MatrixText.l1 k x3 x5 x16 x17 x18 x23 x24 x140000 x140001)
theorem impl_MatrixText.l1lim (x3 : ByteArray) (x5 : Int) (x16 : List Int) (x17 : Int) (x18 : Int) (x23 : Int) (x24 : Int) (x140000 : Int) (x140001 : List Int) : IsLim (fun k => impl_MatrixText.l1 k x3 x5 x16 x17 x18 x23 x24 x140000 x140001) (impl_MatrixText.l1d x3 x5 x16 x17 x18 x23 x24 x140000 x140001) := lim_spec (fun k => (impl_MatrixText.mono_l k).2 x3 x5 x16 x17 x18 x23 x24 x140000 x140001)
theorem impl_MatrixText.l0d_eq (x3 : ByteArray) (x16 : List Int) (x17 : Int) (x18 : Int) (x140000 : Int) (x140001 : List Int) : impl_MatrixText.l0d x3 x16 x17 x18 x140000 x140001 = if x18 < x17 then (if 0 ≤ x18 then (if x18 < (x16.length : Int) then (impl_MatrixText.l1d x3 (rd x16 x18) x16 x17 x18 x140000 0 x140000 x140001) else (none)) else (none)) else (some x3) := by
  refine IsLim.unique (impl_MatrixText.l0lim _ _ _ _ _ _) ?_
  refine IsLim.shift (by rfl) ?_
  simp only [impl_MatrixText.l0]
  repeat' (first | exact IsLim.const _ | refine IsLim.ite ?_ ?_ | refine IsLim.bind ?_ (fun _ => ?_) | exact impl_MatrixText.l1lim ..)
theorem impl_MatrixText.l1d_eq (x3 : ByteArray) (x5 : Int) (x16 : List Int) (x17 : Int) (x18 : Int) (x23 : Int) (x24 : Int) (x140000 : Int) (x140001 : List Int) : impl_MatrixText.l1d x3 x5 x16 x17 x18 x23 x24 x140000 x140001 = if x24 < x23 then (if 0 ≤ x24 then ((some (([(wrap64 (48 + (Go.bits .and .i64 (shr .i64 x5 x24) 1))) % 256] : List Int) : List Int)).bind fun y143 => (if x3.size + (strOfNums y143).size ≤ 9223372036854775807 then (impl_MatrixText.l1d (x3 ++ (strOfNums y143)) x5 x16 x17 x18 x23 (wrap64 (x24 + 1)) x140000 x140001) else (none))) else (none)) else (if x3.size + 1 ≤ 9223372036854775807 then (impl_MatrixText.l0d (x3 ++ (⟨#[10]⟩ : ByteArray)) x16 x17 (wrap64 (x18 + 1)) x140000 x140001) else (none)) := by
  refine IsLim.unique (impl_MatrixText.l1lim _ _ _ _ _ _ _ _ _) ?_
  refine IsLim.shift (by rfl) ?_
  simp only [impl_MatrixText.l1]
  repeat' (first | exact IsLim.const _ | refine IsLim.ite ?_ ?_ | refine IsLim.bind ?_ (fun _ => ?_) | exact impl_MatrixText.l1lim .. | exact impl_MatrixText.l0lim ..)
noncomputable def impl_MatrixText.d (a0_0 : Int) (l0_1 : List Int) : Option (ByteArray) := lim (fun k => impl_MatrixText.f k a0_0 l0_1)
theorem impl_MatrixText.lim (a0_0 : Int) (l0_1 : List Int) : IsLim (fun k => impl_MatrixText.f k a0_0 l0_1) (impl_MatrixText.d a0_0 l0_1) := lim_spec (fun k => impl_MatrixText.mono a0_0 l0_1 k)
theorem impl_MatrixText.d_eq (a0_0 : Int) (l0_1 : List Int) : impl_MatrixText.d a0_0 l0_1 = (impl_ValidMatrix.d a0_0 l0_1).bind fun t140 => (if t140 = true then ((strconv_FormatInt.f a0_0 10).bind fun t141 => (if 7 + t141.size ≤ 9223372036854775807 then (if 7 + t141.size + 1 ≤ 9223372036854775807 then (impl_MatrixText.l0d (((⟨#[109, 97, 116, 114, 105, 120, 32]⟩ : ByteArray) ++ t141) ++ (⟨#[10]⟩ : ByteArray)) l0_1 (l0_1.length : Int) 0 a0_0 l0_1) else (none)) else (none))) else (some (⟨#[]⟩ : ByteArray))) := by
  refine IsLim.unique (impl_MatrixText.lim _ _) ?_
  unfold impl_MatrixText.f
  repeat' (first | exact IsLim.const _ | refine IsLim.ite ?_ ?_ | refine IsLim.bind ?_ (fun _ => ?_) | exact impl_ValidMatrix.lim .. | exact impl_MatrixText.l0lim ..)
noncomputable def laws_eqInt64S.l0d (x0 : List Int) (x1 : List Int) (x5 : Int) : Option (Bool) := lim (fun k => laws_eqInt64S.l0 k x0 x1 x5)
theorem laws_eqInt64S.l0lim (x0 : List Int) (x1 : List Int) (x5 : Int) : IsLim (fun k => laws_eqInt64S.l0 k x0 x1 x5) (laws_eqInt64S.l0d x0 x1 x5) := lim_spec (fun k => (laws_eqInt64S.mono_l k) x0 x1 x5)
theorem laws_eqInt64S.l0d_eq (x0 : List Int) (x1 : List Int) (x5 : Int) : laws_eqInt64S.l0d x0 x1 x5 = if x5 < (x0.length : Int) then (if 0 ≤ x5 then (if x5 < (x1.length : Int) then (if (rd x0 x5) = (rd x1 x5) then (laws_eqInt64S.l0d x0 x1 (wrap64 (x5 + 1))) else (some false)) else (none)) else (none)) else (some true) := by
  refine IsLim.unique (laws_eqInt64S.l0lim _ _ _) ?_
  refine IsLim.shift (by rfl) ?_
  simp only [laws_eqInt64S.l0]
  repeat' (first | exact IsLim.const _ | refine IsLim.ite ?_ ?_ | refine IsLim.bind ?_ (fun _ => ?_) | exact laws_eqInt64S.l0lim ..)
noncomputable def laws_eqInt64S.d (l0 : List Int) (l1 : List Int) : Option (Bool) := lim (fun k => laws_eqInt64S.f k l0 l1)
theorem laws_eqInt64S.lim (l0 : List Int) (l1 : List Int) : IsLim (fun k => laws_eqInt64S.f k l0 l1) (laws_eqInt64S.d l0 l1) := lim_spec (fun k => laws_eqInt64S.mono l0 l1 k)
theorem laws_eqInt64S.d_eq (l0 : List Int) (l1 : List Int) : laws_eqInt64S.d l0 l1 = if (l0.length : Int) = (l1.length : Int) then (laws_eqInt64S.l0d l0 l1 0) else (some false) := by
  refine IsLim.unique (laws_eqInt64S.lim _ _) ?_
  unfold laws_eqInt64S.f
  repeat' (first | exact IsLim.const _ | refine IsLim.ite ?_ ?_ | refine IsLim.bind ?_ (fun _ => ?_) | exact laws_eqInt64S.l0lim ..)
end Go.Proofs.YtgkmhpmlilcjaaaDoor.P
end
section
namespace Go.Proofs.YtgkmhpmlilcjaaaDoor.P
open Go.RowKit Go.Proofs.YtgkmhpmlilcjaaaDoorW.PrintWords Go.Proofs.YtgkmhpmlilcjaaaDoorW.PrintLast Go.Proofs.YtgkmhpmlilcjaaaDoorW.PrintMore
set_option linter.unusedVariables false
set_option linter.unusedSimpArgs false
noncomputable def laws_eqMatrix.d (a0_0 : Int) (l0_1 : List Int) (a1_0 : Int) (l1_1 : List Int) : Option (Bool) := lim (fun k => laws_eqMatrix.f k a0_0 l0_1 a1_0 l1_1)
theorem laws_eqMatrix.lim (a0_0 : Int) (l0_1 : List Int) (a1_0 : Int) (l1_1 : List Int) : IsLim (fun k => laws_eqMatrix.f k a0_0 l0_1 a1_0 l1_1) (laws_eqMatrix.d a0_0 l0_1 a1_0 l1_1) := lim_spec (fun k => laws_eqMatrix.mono a0_0 l0_1 a1_0 l1_1 k)
theorem laws_eqMatrix.d_eq (a0_0 : Int) (l0_1 : List Int) (a1_0 : Int) (l1_1 : List Int) : laws_eqMatrix.d a0_0 l0_1 a1_0 l1_1 = if a0_0 = a1_0 then ((laws_eqInt64S.d l0_1 l1_1).bind fun t150 => (if t150 = true then (some true) else (some false))) else (some false) := by
  refine IsLim.unique (laws_eqMatrix.lim _ _ _ _) ?_
  unfold laws_eqMatrix.f
  repeat' (first | exact IsLim.const _ | refine IsLim.ite ?_ ?_ | refine IsLim.bind ?_ (fun _ => ?_) | exact laws_eqInt64S.lim ..)
end Go.Proofs.YtgkmhpmlilcjaaaDoor.P
end
section
namespace Go.Proofs.YtgkmhpmlilcjaaaDoor.P
open Go.RowKit Go.Proofs.YtgkmhpmlilcjaaaDoorW.PrintWords Go.Proofs.YtgkmhpmlilcjaaaDoorW.PrintLast Go.Proofs.YtgkmhpmlilcjaaaDoorW.PrintMore
set_option linter.unusedVariables false
set_option linter.unusedSimpArgs false
noncomputable def laws_FnExactMatrixText.d (a0_0 : Int) (l0_1 : List Int) : Option (Bool) := lim (fun k => laws_FnExactMatrixText.f k a0_0 l0_1)
theorem laws_FnExactMatrixText.lim (a0_0 : Int) (l0_1 : List Int) : IsLim (fun k => laws_FnExactMatrixText.f k a0_0 l0_1) (laws_FnExactMatrixText.d a0_0 l0_1) := lim_spec (fun k => laws_FnExactMatrixText.mono a0_0 l0_1 k)
theorem laws_FnExactMatrixText.d_eq (a0_0 : Int) (l0_1 : List Int) : laws_FnExactMatrixText.d a0_0 l0_1 = (laws_szMatrix.f a0_0 l0_1 1048576).bind fun t152 => (if t152 < 0 then (some true) else ((laws_toMatrix.d a0_0 l0_1).bind fun bt153 => ((spec_MatrixText.d bt153.1 bt153.2).bind fun t157 => ((laws_toMatrix.d a0_0 l0_1).bind fun bt158 => ((impl_MatrixText.d bt158.1 bt158.2).bind fun t163 => (if t163.toList = t157.toList then ((laws_toMatrix.d a0_0 l0_1).bind fun bt164 => ((laws_eqMatrix.d bt158.1 bt158.2 bt164.1 bt164.2).bind fun t168 => (if t168 = true then (some true) else (some false)))) else (some false))))))) := by
  refine IsLim.unique (laws_FnExactMatrixText.lim _ _) ?_
  unfold laws_FnExactMatrixText.f
  repeat' (first | exact IsLim.const _ | refine IsLim.ite ?_ ?_ | refine IsLim.bind ?_ (fun _ => ?_) | exact laws_toMatrix.lim .. | exact spec_MatrixText.lim .. | exact impl_MatrixText.lim .. | exact laws_eqMatrix.lim ..)
end Go.Proofs.YtgkmhpmlilcjaaaDoor.P
end
section
namespace Go.Proofs.YtgkmhpmlilcjaaaDoor.P
open Go.RowKit Go.Proofs.YtgkmhpmlilcjaaaDoorW.PrintWords Go.Proofs.YtgkmhpmlilcjaaaDoorW.PrintLast Go.Proofs.YtgkmhpmlilcjaaaDoorW.PrintMore
set_option linter.unusedVariables false
set_option linter.unusedSimpArgs false
theorem wr {x : Int} (h0 : -9223372036854775808 ≤ x) (h1 : x < 9223372036854775808) : wrap64 x = x := by
  unfold wrap64; omega
theorem wrS {i n : Nat} (h : i < n) (hn : n ≤ 17592186044416) : wrap64 ((i : Int) + 1) = ((i + 1 : Nat) : Int) := by rw [wr (by omega) (by omega)]; omega
theorem u64_id {x : Int} (h0 : 0 ≤ x) (h1 : x < 9223372036854775808) : IntKind.u64.wrap x = x := by rw [IntKind.wrap_u64]; omega
theorem down {Q : Nat → Prop} {n : Nat} (h0 : Q n) (hs : ∀ i, i < n → Q (i + 1) → Q i) : ∀ i, i ≤ n → Q i := by
  intro i hi
  obtain ⟨d, hd⟩ : ∃ d, d = n - i := ⟨_, rfl⟩
  induction d generalizing i with
  | zero => have : i = n := by omega
            exact this ▸ h0
  | succ d ih => exact hs i (by omega) (ih (i + 1) (by omega) (by omega))
theorem rd_get {l : List Int} {i : Nat} (h : i < l.length) : rd l (i : Int) = l[i] := rd_at l i h
theorem bind_some' {α β : Type} (a : α) (f : α → Option β) : (some a).bind f = f a := rfl
/-- the first place where `q` holds, by a walk upward -/
theorem index_gen {F : Int → Option Int} {n : Nat} {q : Nat → Bool} (hend : F (n : Int) = some (-1))
    (heq : ∀ i : Nat, i < n → F (i : Int) = if q i = true then some (i : Int) else F ((i + 1 : Nat) : Int)) :
    ∃ v, F 0 = some v ∧ (decide (v ≥ 0) = !decide (∀ i, i < n → q i = false)) ∧ (0 ≤ v → v.toNat < n ∧ q v.toNat = true ∧ ∀ j, j < v.toNat → q j = false) := by
  have key : ∀ i, i ≤ n → ∃ v, F (i : Int) = some v ∧ (v ≥ 0 ↔ ¬ ∀ j, i ≤ j → j < n → q j = false) ∧ (0 ≤ v → i ≤ v.toNat ∧ v.toNat < n ∧ q v.toNat = true ∧ ∀ j, i ≤ j → j < v.toNat → q j = false) := by
    apply down
    · exact ⟨-1, hend, ⟨fun h => absurd h (by decide), fun h => absurd (fun j _ _ => by omega) h⟩, fun h => absurd h (by decide)⟩
    · intro i hi ⟨v, e, c, d⟩
      rw [heq i hi]
      by_cases hq : q i = true
      · rw [if_pos hq]
        exact ⟨i, rfl, ⟨fun _ h => (by rw [h i (by omega) hi] at hq; cases hq), fun _ => by omega⟩, fun _ => ⟨by simp, by simpa using hi, by simpa using hq, fun j h1 h2 => by simp at h2; omega⟩⟩
      · rw [if_neg hq]
        have hq' : q i = false := Bool.eq_false_iff.mpr hq
        refine ⟨v, e, c.trans ⟨fun h h' => h fun j a b => h' j (by omega) b, fun h h' => h fun j a b => ?_⟩, fun h => ?_⟩
        · rcases Nat.lt_or_ge i j with z | z
          · exact h' j z b
          · have : j = i := by omega
            rw [this, hq']
        · obtain ⟨a1, a2, a3, a4⟩ := d h
          refine ⟨by omega, a2, a3, fun j h1 h2 => ?_⟩
          rcases Nat.lt_or_ge i j with z | z
          · exact a4 j z h2
          · have : j = i := by omega
            rw [this, hq']
  obtain ⟨v, e, c, d⟩ := key 0 (by omega)
  refine ⟨v, e, ?_, fun h => ⟨(d h).2.1, (d h).2.2.1, fun j hj => (d h).2.2.2 j (by omega) hj⟩⟩
  rw [← decide_not]
  apply decide_eq_decide.mpr
  exact c.trans ⟨fun h h' => h fun j _ b => h' j b, fun h h' => h fun j b => h' j (by omega) b⟩
theorem all_gen {F : Int → Option Bool} {n : Nat} {q : Nat → Bool} (hend : F (n : Int) = some true)
    (heq : ∀ i : Nat, i < n → F (i : Int) = if q i = true then F ((i + 1 : Nat) : Int) else some false) :
    F 0 = some (decide (∀ i, i < n → q i = true)) := by
  have key : ∀ i, i ≤ n → ∃ b, F (i : Int) = some b ∧ (b = true ↔ ∀ j, i ≤ j → j < n → q j = true) := by
    apply down
    · exact ⟨true, hend, ⟨fun _ j a b => by omega, fun _ => rfl⟩⟩
    · intro i hi ⟨b, e, c⟩
      rw [heq i hi, e]
      by_cases hq : q i = true
      · rw [if_pos hq]
        refine ⟨b, rfl, c.trans ⟨fun h j a b => ?_, fun h j a b => h j (by omega) b⟩⟩
        rcases Nat.lt_or_ge i j with z | z
        · exact h j z b
        · have : j = i := by omega
          rw [this, hq]
      · rw [if_neg hq]
        exact ⟨false, rfl, ⟨(fun h => absurd h (by decide)), fun h => absurd (h i (by omega) hi) hq⟩⟩
  obtain ⟨b, e, c⟩ := key 0 (by omega)
  have e' : F 0 = some b := e
  rw [e']
  congr 1
  rw [Bool.eq_iff_iff, decide_eq_true_iff]
  exact c.trans ⟨fun h j b => h j (by omega) b, fun h j _ b => h j b⟩
theorem all_get {l : List Int} {q : Int → Bool} : decide (∀ i, i < l.length → q (rd l (i : Int)) = true) = l.all q := by
  rw [Bool.eq_iff_iff, decide_eq_true_iff, List.all_eq_true]
  constructor
  · intro h x hx
    obtain ⟨i, hi, e⟩ := List.getElem_of_mem hx
    have := h i hi
    rwa [rd_get hi, e] at this
  · intro h i hi
    rw [rd_get hi]; exact h _ (List.getElem_mem hi)
end Go.Proofs.YtgkmhpmlilcjaaaDoor.P
end
section
namespace Go.Proofs.YtgkmhpmlilcjaaaDoor.P
open Go.RowKit Go.Proofs.YtgkmhpmlilcjaaaDoorW.PrintWords Go.Proofs.YtgkmhpmlilcjaaaDoorW.PrintLast Go.Proofs.YtgkmhpmlilcjaaaDoorW.PrintMore
set_option linter.unusedVariables false
set_option linter.unusedSimpArgs false
theorem toInt64S_v {l : List Int} (h : l.length ≤ 17592186044416) : laws_toInt64S.d l = some l := by
  have key : ∀ i, i ≤ l.length → laws_toInt64S.l0d l (l.take i ++ List.replicate (l.length - i) 0) (i : Int) = some l := by
    apply down
    · rw [laws_toInt64S.l0d_eq, if_neg (by omega)]; simp
    · intro i hi ih
      rw [laws_toInt64S.l0d_eq, if_pos (by omega), if_pos (by omega), if_pos (by simp; omega), wrS hi h, rd_get hi]
      rw [← ih]
      congr 1
      rw [List.take_succ_eq_append_getElem hi, Int.toNat_natCast]
      apply List.ext_getElem
      · simp; omega
      · intro j h1 h2
        simp only [List.getElem_set, List.getElem_append, List.length_take, List.length_append, List.getElem_take, List.getElem_replicate, List.length_cons, List.length_nil]
        simp only [List.length_set, List.length_append, List.length_take, List.length_replicate] at h1
        by_cases c : i = j
        · subst c; rw [if_pos rfl, dif_pos (by omega), dif_neg (by omega)]; simp
        · rw [if_neg c]
          by_cases c2 : j < i
          · rw [dif_pos (by omega), dif_pos (by omega), dif_pos (by omega)]
          · rw [dif_neg (by omega), dif_neg (by omega)]
  rw [laws_toInt64S.d_eq, if_pos (by omega), if_pos (by omega)]
  have := key 0 (by omega)
  simpa using this
theorem eqInt64S_v {a b : List Int} (h : a.length ≤ 17592186044416) : laws_eqInt64S.d a b = some (decide (a = b)) := by
  rw [laws_eqInt64S.d_eq]
  by_cases hl : a.length = b.length
  · rw [if_pos (by omega)]
    have key : ∀ i, i ≤ a.length → laws_eqInt64S.l0d a b (i : Int) = some (decide (a.drop i = b.drop i)) := by
      apply down
      · rw [laws_eqInt64S.l0d_eq, if_neg (by omega)]; simp [hl]
      · intro i hi ih
        have hb : i < b.length := by omega
        rw [laws_eqInt64S.l0d_eq, if_pos (by omega), if_pos (by omega), if_pos (by omega), wrS hi h, rd_get hi, rd_get hb, ih]
        rw [List.drop_eq_getElem_cons hi, List.drop_eq_getElem_cons hb]
        by_cases c : a[i] = b[i]
        · rw [if_pos c]; simp only [List.cons.injEq, c, true_and]
        · rw [if_neg c]; simp only [List.cons.injEq, c, false_and, decide_false]
    have := key 0 (by omega)
    simpa using this
  · rw [if_neg (by omega)]
    have : a ≠ b := fun e => hl (by rw [e])
    simp [this]
theorem eqInt64S_self {a : List Int} (h : a.length ≤ 17592186044416) : laws_eqInt64S.d a a = some true := by rw [eqInt64S_v h]; simp
end Go.Proofs.YtgkmhpmlilcjaaaDoor.P
end
section
namespace Go.Proofs.YtgkmhpmlilcjaaaDoor.P
open Go.RowKit Go.Proofs.YtgkmhpmlilcjaaaDoorW.PrintWords Go.Proofs.YtgkmhpmlilcjaaaDoorW.PrintLast Go.Proofs.YtgkmhpmlilcjaaaDoorW.PrintMore
set_option linter.unusedVariables false
set_option linter.unusedSimpArgs false
theorem szInt64S_in {l : List Int} {n : Int} (h : (l.length : Int) ≤ n) (hn : n ≤ 4611686018427387904) : laws_szInt64S.f l n = some (n - l.length) := by
  unfold laws_szInt64S.f
  rw [wr (by omega) (by omega), if_neg (by omega)]
theorem szInt64S_out {l : List Int} {n : Int} (h : n < (l.length : Int)) (h0 : 0 ≤ n) (hl : l.length ≤ maxLen) : laws_szInt64S.f l n = some (-1) := by
  unfold laws_szInt64S.f
  unfold maxLen at hl
  rw [wr (by omega) (by omega), if_pos (by omega)]
end Go.Proofs.YtgkmhpmlilcjaaaDoor.P
end
section
namespace Go.Proofs.YtgkmhpmlilcjaaaDoor.P
open Go.RowKit Go.Proofs.YtgkmhpmlilcjaaaDoorW.PrintWords Go.Proofs.YtgkmhpmlilcjaaaDoorW.PrintLast Go.Proofs.YtgkmhpmlilcjaaaDoorW.PrintMore
set_option linter.unusedVariables false
set_option linter.unusedSimpArgs false
theorem wrap_nat {n : Nat} (h : n < 9223372036854775808) : IntKind.i64.wrap (n : Int) = (n : Int) := by rw [IntKind.wrap_i64]; omega
theorem bits_nat {a : Nat} (ha : a < 9223372036854775808) : (BitVec.ofInt IntKind.i64.bits (a : Int)).toNat = a := by
  show (BitVec.ofInt 64 (a : Int)).toNat = a
  rw [BitVec.ofInt_natCast, BitVec.toNat_ofNat]
  exact Nat.mod_eq_of_lt (by omega)
theorem band {a b : Nat} (ha : a < 9223372036854775808) (hb : b < 9223372036854775808) : Go.bits .and .i64 (a : Int) (b : Int) = ((a &&& b : Nat) : Int) := by
  show IntKind.i64.wrap ((BitVec.ofInt IntKind.i64.bits (a : Int) &&& BitVec.ofInt IntKind.i64.bits (b : Int)).toNat : Int) = _
  rw [BitVec.toNat_and, bits_nat ha, bits_nat hb]
  exact wrap_nat (Nat.and_lt_two_pow (n := 63) a (by omega))
theorem shr_nat {a c : Nat} (hc : c ≤ 64) : shr .i64 (a : Int) (c : Int) = ((a >>> c : Nat) : Int) := by
  show (a : Int) / 2 ^ min (c : Int).toNat 64 = _
  rw [Int.toNat_natCast, Nat.min_eq_left hc, Nat.shiftRight_eq_div_pow]
  simp
theorem shl_nat {a c : Nat} (hc : c ≤ 64) (h : a * 2 ^ c < 9223372036854775808) : shl .i64 (a : Int) (c : Int) = ((a * 2 ^ c : Nat) : Int) := by
  show IntKind.i64.wrap ((a : Int) * 2 ^ min (c : Int).toNat 64) = _
  rw [Int.toNat_natCast, Nat.min_eq_left hc, ← wrap_nat h]
  simp
theorem bit_test {a c : Nat} (ha : a < 9223372036854775808) (hc : c ≤ 64) : Go.bits .and .i64 (shr .i64 (a : Int) (c : Int)) 1 = if a.testBit c = true then 1 else 0 := by
  rw [shr_nat hc]
  have h1 : a >>> c < 9223372036854775808 := by
    rw [Nat.shiftRight_eq_div_pow]
    exact Nat.lt_of_le_of_lt (Nat.div_le_self _ _) ha
  have := band (a := a >>> c) (b := 1) h1 (by omega)
  rw [show ((1 : Nat) : Int) = 1 from rfl] at this
  rw [this, Nat.testBit, Nat.and_comm 1]
  rw [Nat.and_one_is_mod]
  rcases Nat.mod_two_eq_zero_or_one (a >>> c) with e | e <;> rw [e] <;> simp
theorem small62 {x n : Nat} (hn : n ≤ 63) (h : x < 2 ^ n) : x < 9223372036854775808 := Nat.lt_of_lt_of_le h (Nat.le_trans (Nat.pow_le_pow_right (by omega) hn) (by decide))
/-- rows as the program holds them -/
def up (l : List Nat) : List Int := l.map fun (x : Nat) => (x : Int)
theorem up_length (l : List Nat) : (up l).length = l.length := by simp [up]
theorem up_get {l : List Nat} {i : Nat} (h : i < l.length) : rd (up l) (i : Int) = (l[i] : Int) := by
  rw [rd_get (by rw [up_length]; exact h)]; simp [up]
theorem up_of {l : List Int} (h : ∀ x ∈ l, 0 ≤ x) : up (l.map Int.toNat) = l := by
  unfold up
  rw [List.map_map]
  conv => rhs; rw [← List.map_id l]
  apply List.map_congr_left
  intro x hx
  show ((x.toNat : Nat) : Int) = x
  have := h x hx
  omega
end Go.Proofs.YtgkmhpmlilcjaaaDoor.P
end
section
namespace Go.Proofs.YtgkmhpmlilcjaaaDoor.P
open Go.RowKit Go.Proofs.YtgkmhpmlilcjaaaDoorW.PrintWords Go.Proofs.YtgkmhpmlilcjaaaDoorW.PrintLast Go.Proofs.YtgkmhpmlilcjaaaDoorW.PrintMore
set_option linter.unusedVariables false
set_option linter.unusedSimpArgs false
/-- a number of m places -/
def elemB (m x : Int) : Bool := decide (0 ≤ x) && decide (x < 2 ^ m.toNat)
theorem elems_up {N : Nat} {l : List Int} (h : l.all (elemB (N : Int)) = true) : ∃ ln : List Nat, l = up ln ∧ ∀ x ∈ ln, x < 2 ^ N := by
  rw [List.all_eq_true] at h
  have he : ∀ x ∈ l, 0 ≤ x ∧ x < 2 ^ N := fun x hx => by
    have := h x hx
    unfold elemB at this
    simpa using this
  refine ⟨l.map Int.toNat, (up_of fun x hx => (he x hx).1).symm, fun x hx => ?_⟩
  obtain ⟨y, hy, rfl⟩ := List.mem_map.mp hx
  have := he y hy
  have e : ((2 ^ N : Nat) : Int) = (2 : Int) ^ N := by simp
  omega
end Go.Proofs.YtgkmhpmlilcjaaaDoor.P
end
section
namespace Go.Proofs.YtgkmhpmlilcjaaaDoor.P
open Go.RowKit Go.Proofs.YtgkmhpmlilcjaaaDoorW.PrintWords Go.Proofs.YtgkmhpmlilcjaaaDoorW.PrintLast Go.Proofs.YtgkmhpmlilcjaaaDoorW.PrintMore
set_option linter.unusedVariables false
set_option linter.unusedSimpArgs false
def matB (c : Int) (l : List Int) : Bool := (decide (1 ≤ c) && decide (c ≤ 10)) && (decide (l.length ≤ 10) && l.all (elemB c))
theorem mat_up {c : Int} {l : List Int} (h : matB c l = true) : ∃ N : Nat, ∃ ln : List Nat, c = (N : Int) ∧ 1 ≤ N ∧ N ≤ 10 ∧ l = up ln ∧ ln.length ≤ 10 ∧ ∀ x ∈ ln, x < 2 ^ N := by
  unfold matB at h
  simp only [Bool.and_eq_true, decide_eq_true_eq] at h
  obtain ⟨⟨h1, h2⟩, h3, h4⟩ := h
  obtain ⟨N, rfl⟩ : ∃ N : Nat, c = (N : Int) := ⟨c.toNat, by omega⟩
  obtain ⟨ln, rfl, hb⟩ := elems_up h4
  exact ⟨N, ln, rfl, by omega, by omega, rfl, by rwa [up_length] at h3, hb⟩
theorem one_shl {N : Nat} (h : N ≤ 60) : shl .i64 1 (N : Int) = ((2 ^ N : Nat) : Int) := by
  have h2 : 2 ^ N ≤ 2 ^ 60 := Nat.pow_le_pow_right (by omega) h
  have := shl_nat (a := 1) (c := N) (by omega) (by omega)
  rw [Nat.one_mul] at this
  exact this
theorem full_v {c : Int} (h1 : 1 ≤ c) (h2 : c ≤ 10) : wrap64 (shl .i64 1 c - 1) = 2 ^ c.toNat - 1 := by
  obtain ⟨N, rfl⟩ : ∃ N : Nat, c = (N : Int) := ⟨c.toNat, by omega⟩
  have h3 : 2 ^ N ≤ 2 ^ 10 := Nat.pow_le_pow_right (by omega) (by omega)
  have e : ((2 ^ N : Nat) : Int) = (2 : Int) ^ N := by simp
  rw [one_shl (by omega), Int.toNat_natCast, ← e]
  generalize 2 ^ N = G at h3
  rw [wr (by omega) (by omega)]
theorem within_v (x b : Int) : (if x ≥ 0 then some (decide (x ≤ b - 1)) else some false) = some (decide (0 ≤ x) && decide (x < b)) := by
  by_cases c : x ≥ 0
  · rw [if_pos c, decide_eq_true (show 0 ≤ x from c), Bool.true_and]
    congr 1; apply decide_eq_decide.mpr; omega
  · rw [if_neg c, decide_eq_false (show ¬ 0 ≤ x from c), Bool.false_and]
theorem i_mhas_v {c : Int} (h1 : 1 ≤ c) (h2 : c ≤ 10) (l : List Int) (x : Int) : impl_Matrix_has.f c l x = some (elemB c x) := by
  unfold impl_Matrix_has.f impl_within.f elemB
  rw [if_pos (by omega), full_v h1 h2, within_v, bind_some']
theorem i_ValidMatrix_v (c : Int) {l : List Int} (hl : l.length ≤ 17592186044416) : impl_ValidMatrix.d c l = some (matB c l) := by
  rw [impl_ValidMatrix.d_eq]
  unfold impl_within.f matB
  by_cases h1 : 1 ≤ c
  · rw [if_pos (by omega), bind_some']
    by_cases h2 : c ≤ 10
    · rw [if_pos (by simpa using h2)]
      by_cases h3 : l.length ≤ 10
      · rw [if_pos (by omega), slices_ContainsFunc_int64_int64_AT_impl_ValidMatrix_1.d_eq, slices_IndexFunc_int64_int64_AT_impl_ValidMatrix_1.d_eq]
        obtain ⟨v, e, d, _⟩ := index_gen (F := fun i => slices_IndexFunc_int64_int64_AT_impl_ValidMatrix_1.l0d l (l.length : Int) i c l) (n := l.length) (q := fun i => !(elemB c (rd l (i : Int))))
          (by show slices_IndexFunc_int64_int64_AT_impl_ValidMatrix_1.l0d l (l.length : Int) (l.length : Int) c l = _
              rw [slices_IndexFunc_int64_int64_AT_impl_ValidMatrix_1.l0d_eq, if_neg (by omega)])
          (by intro i hi
              show slices_IndexFunc_int64_int64_AT_impl_ValidMatrix_1.l0d l (l.length : Int) (i : Int) c l = _
              rw [slices_IndexFunc_int64_int64_AT_impl_ValidMatrix_1.l0d_eq, if_pos (by omega), if_pos (by omega), if_pos (by omega)]
              unfold impl_ValidMatrix_1.f
              rw [i_mhas_v h1 h2, bind_some', bind_some', wrS hi hl])
        have e' : slices_IndexFunc_int64_int64_AT_impl_ValidMatrix_1.l0d l (l.length : Int) 0 c l = some v := e
        rw [e', bind_some', bind_some', d, Bool.not_not, decide_eq_true h1, decide_eq_true h2, decide_eq_true h3]
        simp only [Bool.true_and]
        congr 1
        rw [← all_get]
        apply decide_eq_decide.mpr
        simp only [Bool.not_eq_false']
      · rw [if_neg (by omega), decide_eq_false h3]; simp
    · rw [if_neg (by simpa using h2), decide_eq_false h2]; simp
  · rw [if_neg (by omega), bind_some', if_neg (by decide), decide_eq_false h1]; simp
theorem s_l02Ok_v (c : Int) {l : List Int} (hl : l.length ≤ 17592186044416) : spec_l02Ok.d c l = some (matB c l) := by
  rw [spec_l02Ok.d_eq]
  unfold spec_l00In.f matB
  by_cases h1 : 1 ≤ c
  · rw [if_pos (by omega), bind_some']
    by_cases h2 : c ≤ 10
    · rw [if_pos (by simpa using h2), spec_l02Ok.j0d_eq]
      by_cases h3 : l.length ≤ 10
      · rw [if_neg (by simp; omega)]
        have := all_gen (F := fun i => spec_l02Ok.l0d i c l) (n := l.length) (q := fun i => elemB c (rd l (i : Int)))
          (by show spec_l02Ok.l0d (l.length : Int) c l = _
              rw [spec_l02Ok.l0d_eq, if_neg (by omega)])
          (by intro i hi
              show spec_l02Ok.l0d (i : Int) c l = _
              unfold elemB
              rw [spec_l02Ok.l0d_eq, if_pos (by omega), if_pos (by omega), u64_id (by omega) (by omega), if_pos (by omega), full_v h1 h2]
              unfold spec_l00In.f
              rw [within_v, bind_some', wrS hi hl])
        have this' : spec_l02Ok.l0d 0 c l = some (decide (∀ i, i < l.length → elemB c (rd l (i : Int)) = true)) := this
        rw [this', decide_eq_true h1, decide_eq_true h2, decide_eq_true h3]
        simp only [Bool.true_and]
        congr 1
        exact all_get
      · rw [if_pos (by simp; omega), decide_eq_false h3]; simp
    · rw [if_neg (by simpa using h2), spec_l02Ok.j0d_eq, if_pos rfl, decide_eq_false h2]; simp
  · rw [if_neg (by omega), bind_some', if_neg (by decide), spec_l02Ok.j0d_eq, if_pos rfl, decide_eq_false h1]; simp
end Go.Proofs.YtgkmhpmlilcjaaaDoor.P
end
section
namespace Go.Proofs.YtgkmhpmlilcjaaaDoor.P
open Go.RowKit Go.Proofs.YtgkmhpmlilcjaaaDoorW.PrintWords Go.Proofs.YtgkmhpmlilcjaaaDoorW.PrintLast Go.Proofs.YtgkmhpmlilcjaaaDoorW.PrintMore
set_option linter.unusedVariables false
set_option linter.unusedSimpArgs false
theorem num_one : ∀ i : Fin 10, strOfNums [wrap64 (48 + ((i.val : Nat) : Int)) % 256] = (⟨(Lib.decDigits i.val).toArray⟩ : ByteArray) := by
  intro i
  rw [Lib.decDigits_one i.isLt]
  revert i
  decide +kernel
theorem dec_small (n : Int) (h : ¬ n ≥ 10) : spec_Decimal.d n = some (strOfNums [wrap64 (48 + n) % 256]) := by
  rw [spec_Decimal.d_eq, if_neg h]
theorem dec_v {n : Nat} (h : n ≤ 10) : spec_Decimal.d (n : Int) = some (⟨(Lib.decDigits n).toArray⟩ : ByteArray) := by
  by_cases c : n < 10
  · rw [dec_small _ (by omega)]
    exact congrArg some (num_one ⟨n, c⟩)
  · obtain rfl : n = 10 := by omega
    have e : wrap64 (Int.tdiv ((10 : Nat) : Int) 10) = ((1 : Nat) : Int) := by decide +kernel
    have s1 : strOfNums [wrap64 (48 + ((1 : Nat) : Int)) % 256] = (⟨#[49]⟩ : ByteArray) := by decide +kernel
    have s2 : strOfNums [wrap64 (48 + Int.tmod ((10 : Nat) : Int) 10) % 256] = (⟨#[48]⟩ : ByteArray) := by decide +kernel
    rw [spec_Decimal.d_eq, if_pos (by decide), e, dec_small _ (by decide), bind_some', bind_some', s1, s2, if_pos (by decide +kernel), Lib.decDigits_two (by decide) (by decide)]
    decide +kernel
theorem fmt_v {n : Nat} (h : n ≤ 10) : strconv_FormatInt.f (n : Int) 10 = some (⟨(Lib.decDigits n).toArray⟩ : ByteArray) := by
  unfold strconv_FormatInt.f
  rw [if_pos ⟨by omega, by omega, rfl⟩, Int.toNat_natCast]
theorem digits_le {n : Nat} (h : n ≤ 10) : (⟨(Lib.decDigits n).toArray⟩ : ByteArray).size ≤ 2 := by
  by_cases c : n < 10
  · rw [Lib.decDigits_one c]; exact (show (1 : Nat) ≤ 2 by decide)
  · rw [Lib.decDigits_two c (by omega)]; exact (show (2 : Nat) ≤ 2 by decide)
theorem bitc {a k : Nat} (ha : a < 9223372036854775808) (hk : k ≤ 64) : ∃ y : ByteArray, y.size = 1 ∧ (∃ b, spec_l02Bit.f (a : Int) (k : Int) = some b ∧ spec_Decimal.d b = some y) ∧ strOfNums [wrap64 (48 + (Go.bits .and .i64 (shr .i64 (a : Int) (k : Int)) 1)) % 256] = y := by
  have e := bit_test ha hk
  have hs : spec_l02Bit.f (a : Int) (k : Int) = some (Go.bits .and .i64 (shr .i64 (a : Int) (k : Int)) 1) := by
    unfold spec_l02Bit.f
    rw [u64_id (by omega) (by omega), if_pos (by omega)]
  rw [e] at hs ⊢
  by_cases c : a.testBit k = true
  · rw [if_pos c] at hs ⊢
    exact ⟨_, by decide +kernel, ⟨_, hs, dec_small _ (by decide)⟩, rfl⟩
  · rw [if_neg c] at hs ⊢
    exact ⟨_, by decide +kernel, ⟨_, hs, dec_small _ (by decide)⟩, rfl⟩
theorem row_text {N : Nat} {ln : List Nat} (hN : N ≤ 10) (hb : ∀ x ∈ ln, x < 2 ^ N) {i : Nat} (hi : i < ln.length) : ∀ d k : Nat, k + d = N → ∀ x : ByteArray, x.size + d ≤ 1000000 →
    ∃ y : ByteArray, y.size = x.size + d ∧ spec_MatrixText.l1d x (i : Int) (k : Int) (N : Int) (up ln) = spec_MatrixText.l1d y (i : Int) (N : Int) (N : Int) (up ln) ∧
      impl_MatrixText.l1d x (rd (up ln) (i : Int)) (up ln) ((up ln).length : Int) (i : Int) (N : Int) (k : Int) (N : Int) (up ln) = impl_MatrixText.l1d y (rd (up ln) (i : Int)) (up ln) ((up ln).length : Int) (i : Int) (N : Int) (N : Int) (N : Int) (up ln) := by
  intro d
  induction d with
  | zero =>
    intro k hk x _
    obtain rfl : k = N := by omega
    exact ⟨x, by omega, rfl, rfl⟩
  | succ d ih =>
    intro k hk x hx
    have ha : ln[i] < 9223372036854775808 := small62 (by omega) (hb _ (List.getElem_mem hi))
    obtain ⟨y, y1, ⟨b, s1, s2⟩, s3⟩ := bitc ha (show k ≤ 64 by omega)
    have z1 : (x ++ y).size = x.size + 1 := by rw [ByteArray.size_append, y1]
    obtain ⟨z, z2, e1, e2⟩ := ih (k + 1) (by omega) (x ++ y) (by omega)
    refine ⟨z, by omega, ?_, ?_⟩
    · rw [spec_MatrixText.l1d_eq, if_pos (by omega), if_pos (by omega), if_pos (by rw [up_length]; omega), up_get hi, s1, bind_some', s2, bind_some', if_pos (by omega), wrS (show k < N by omega) (by omega)]
      exact e1
    · rw [impl_MatrixText.l1d_eq, if_pos (by omega), if_pos (by omega), bind_some', up_get hi, s3, if_pos (by omega), wrS (show k < N by omega) (by omega), ← up_get hi]
      exact e2
theorem rows_text {N : Nat} {ln : List Nat} (hN : N ≤ 10) (hl : ln.length ≤ 10) (hb : ∀ x ∈ ln, x < 2 ^ N) : ∀ d i : Nat, i + d = ln.length → ∀ x : ByteArray, x.size + d * 11 ≤ 100000 →
    ∃ y : ByteArray, spec_MatrixText.l0d x (i : Int) (N : Int) (up ln) = some y ∧ impl_MatrixText.l0d x (up ln) ((up ln).length : Int) (i : Int) (N : Int) (up ln) = some y := by
  intro d
  induction d with
  | zero =>
    intro i hi x _
    exact ⟨x, by rw [spec_MatrixText.l0d_eq, if_neg (by rw [up_length]; omega)], by rw [impl_MatrixText.l0d_eq, if_neg (by rw [up_length]; omega)]⟩
  | succ d ih =>
    intro i hi x hx
    obtain ⟨y, y1, e1, e2⟩ := row_text hN hb (show i < ln.length by omega) N 0 (by omega) x (by omega)
    have n1 : (⟨#[10]⟩ : ByteArray).size = 1 := by decide
    have z1 : (y ++ (⟨#[10]⟩ : ByteArray)).size = y.size + 1 := by rw [ByteArray.size_append, n1]
    obtain ⟨z, f1, f2⟩ := ih (i + 1) (by omega) (y ++ (⟨#[10]⟩ : ByteArray)) (by omega)
    refine ⟨z, ?_, ?_⟩
    · rw [spec_MatrixText.l0d_eq, if_pos (by rw [up_length]; omega)]
      refine Eq.trans e1 ?_
      rw [spec_MatrixText.l1d_eq, if_neg (by omega), if_pos (by omega), wrS (show i < ln.length by omega) (by omega)]
      exact f1
    · rw [impl_MatrixText.l0d_eq, if_pos (by rw [up_length]; omega), if_pos (by omega), if_pos (by rw [up_length]; omega)]
      refine Eq.trans e2 ?_
      rw [impl_MatrixText.l1d_eq, if_neg (by omega), if_pos (by omega), wrS (show i < ln.length by omega) (by omega)]
      exact f2
theorem text_v (c : Int) {l : List Int} (hl : l.length ≤ 17592186044416) : ∃ y, spec_MatrixText.d c l = some y ∧ impl_MatrixText.d c l = some y := by
  rw [spec_MatrixText.d_eq, impl_MatrixText.d_eq, s_l02Ok_v c hl, i_ValidMatrix_v c hl, bind_some', bind_some']
  by_cases h : matB c l = true
  · rw [if_pos h, if_pos h]
    obtain ⟨N, ln, rfl, h1, h2, rfl, h3, h4⟩ := mat_up h
    have g := digits_le h2
    have n1 : (⟨#[10]⟩ : ByteArray).size = 1 := by decide
    have n7 : (⟨#[109, 97, 116, 114, 105, 120, 32]⟩ : ByteArray).size = 7 := by decide
    rw [dec_v h2, fmt_v h2, bind_some', bind_some']
    generalize hz : (⟨(Lib.decDigits N).toArray⟩ : ByteArray) = z at g
    have z1 : ((⟨#[109, 97, 116, 114, 105, 120, 32]⟩ : ByteArray) ++ z).size = 7 + z.size := by rw [ByteArray.size_append, n7]
    have z2 : (((⟨#[109, 97, 116, 114, 105, 120, 32]⟩ : ByteArray) ++ z) ++ (⟨#[10]⟩ : ByteArray)).size = 7 + z.size + 1 := by rw [ByteArray.size_append, z1, n1]
    rw [if_pos (by omega), if_pos (by omega), if_pos (by omega), if_pos (by omega)]
    exact rows_text h2 h3 h4 ln.length 0 (by omega) _ (by omega)
  · rw [if_neg h, if_neg h]
    exact ⟨_, rfl, rfl⟩
theorem MatrixText_law (a : Int) (l : List Int) (h0 : (Lit.int .i64 a).wf = true) (h1 : l.length ≤ maxLen) (h2 : ∀ x ∈ l, (Lit.int .i64 x).wf = true) : laws_FnExactMatrixText.d a l = some true := by
  rw [laws_FnExactMatrixText.d_eq]
  unfold laws_szMatrix.f
  by_cases c : l.length ≤ 1048576
  · obtain ⟨y, e1, e2⟩ := text_v a (l := l) (by omega)
    have tmx : laws_toMatrix.d a l = some (a, l) := by rw [laws_toMatrix.d_eq, toInt64S_v (by omega), bind_some']
    have em : laws_eqMatrix.d a l a l = some true := by rw [laws_eqMatrix.d_eq, if_pos rfl, eqInt64S_self (by omega), bind_some', if_pos rfl]
    rw [szInt64S_in (by omega) (by omega), bind_some', if_neg (by omega), bind_some', if_neg (by omega), tmx, bind_some']
    show ((spec_MatrixText.d a l).bind _) = _
    rw [e1, bind_some', bind_some']
    show ((impl_MatrixText.d a l).bind _) = _
    rw [e2, bind_some', if_pos rfl, bind_some']
    show ((laws_eqMatrix.d a l a l).bind _) = _
    rw [em, bind_some', if_pos rfl]
  · rw [szInt64S_out (by omega) (by omega) h1, bind_some', if_pos (by decide), bind_some', if_pos (by decide)]
end Go.Proofs.YtgkmhpmlilcjaaaDoor.P
end
section
namespace Go.Proofs.YtgkmhpmlilcjaaaDoor.P
open Go.RowKit Go.Proofs.YtgkmhpmlilcjaaaDoorW.PrintWords Go.Proofs.YtgkmhpmlilcjaaaDoorW.PrintLast Go.Proofs.YtgkmhpmlilcjaaaDoorW.PrintMore
/-- The one pure statement of laws_FnExactMatrixText. -/
def laws_FnExactMatrixText.Pure : Prop := ∀ (a0_0 : Int) (l0_1 : List Int), ((Lit.int .i64 a0_0).wf = true) → (l0_1.length ≤ maxLen) → (∀ x ∈ l0_1, (Lit.int .i64 x).wf = true) → ∃ k, laws_FnExactMatrixText.f k a0_0 l0_1 = some true
end Go.Proofs.YtgkmhpmlilcjaaaDoor.P
end
section
namespace Go.Proofs.YtgkmhpmlilcjaaaDoor.Pure
theorem FnExactMatrixText : P.laws_FnExactMatrixText.Pure := fun a0_0 l0_1 h0_ h1_ h2_ => P.IsLim.some_ (P.laws_FnExactMatrixText.lim a0_0 l0_1) (P.MatrixText_law a0_0 l0_1 h0_ h1_ h2_)
end Go.Proofs.YtgkmhpmlilcjaaaDoor.Pure
end
