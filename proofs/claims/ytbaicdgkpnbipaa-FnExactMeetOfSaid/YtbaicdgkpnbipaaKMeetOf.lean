/- What the functions of the law FnExactMeetOf tell without rounds, and its pure statement. -/
import Derived.Test.YtbaicdgkpnbipaaPx0
import Derived.Test.YtbaicdgkpnbipaaPx5
import Derived.Test.YtbaicdgkpnbipaaPx10
import Derived.Test.YtbaicdgkpnbipaaPx1
import Derived.Test.YtbaicdgkpnbipaaPx2
import Derived.Test.YtbaicdgkpnbipaaPx3
import Derived.Test.YtbaicdgkpnbipaaPx4
import Derived.Test.YtbaicdgkpnbipaaPx8
import Derived.Test.YtbaicdgkpnbipaaPx9
import Derived.Test.YtbaicdgkpnbipaaPx12
import Derived.Test.YtbaicdgkpnbipaaPx6
import Derived.Test.YtbaicdgkpnbipaaPx13
import Derived.Test.YtbaicdgkpnbipaaPx26
import Derived.Test.YtbaicdgkpnbipaaPx14
import Derived.Test.YtbaicdgkpnbipaaPx16
import Derived.Test.YtbaicdgkpnbipaaPx54
import Derived.Test.YtbaicdgkpnbipaaPx7
import Derived.Test.YtbaicdgkpnbipaaPx15
import Derived.Test.YtbaicdgkpnbipaaPx55
import Derived.Test.YtbaicdgkpnbipaaPx67
import Derived.ProofKit
section
namespace Go.Proofs.Ytbaicdgkpnbipaa.P
open Go.RowKit Go.Proofs.YtbaicdgkpnbipaaW.PrintWords Go.Proofs.YtbaicdgkpnbipaaW.PrintLast Go.Proofs.YtbaicdgkpnbipaaW.PrintMore
def IsLim {α : Type} (g : Nat → Option α) (v : Option α) : Prop := (∀ k, LeO (g k) (g (k + 1))) ∧ ∀ r, v = some r ↔ ∃ k, g k = some r
theorem leO_le {α : Type} {g : Nat → Option α} (h : ∀ k, LeO (g k) (g (k + 1))) {j k : Nat} (hjk : j ≤ k) : LeO (g j) (g k) := by
  induction hjk with
  | refl => exact fun _ e => e
  | step _ ih => exact fun r e => h _ r (ih r e)
open Classical in
noncomputable def lim {α : Type} (g : Nat → Option α) : Option α := if h : ∃ r, ∃ k, g k = some r then some h.choose else none
theorem lim_spec {α : Type} {g : Nat → Option α} (h : ∀ k, LeO (g k) (g (k + 1))) : IsLim g (lim g) := by
  refine ⟨h, fun r => ?_⟩
  unfold lim
  by_cases hx : ∃ r, ∃ k, g k = some r
  · rw [dif_pos hx]
    obtain ⟨k, hk⟩ := hx.choose_spec
    constructor
    · intro e; exact ⟨k, by rw [hk]; exact e⟩
    · rintro ⟨j, hj⟩
      have a := leO_le h (Nat.le_max_left j k) _ hj
      have b := leO_le h (Nat.le_max_right j k) _ hk
      rw [a] at b; exact b.symm
  · rw [dif_neg hx]
    constructor
    · intro e; cases e
    · rintro ⟨k, hk⟩; exact absurd ⟨r, k, hk⟩ hx
theorem IsLim.unique {α : Type} {g : Nat → Option α} {v v' : Option α} (h : IsLim g v) (h' : IsLim g v') : v = v' :=
  Option.ext fun r => (h.2 r).trans (h'.2 r).symm
theorem IsLim.const {α : Type} (v : Option α) : IsLim (fun _ => v) v := ⟨fun _ _ e => e, fun _ => ⟨fun e => ⟨0, e⟩, fun ⟨_, e⟩ => e⟩⟩
theorem IsLim.ite {α : Type} {c : Prop} [Decidable c] {g g' : Nat → Option α} {v v' : Option α} (h : IsLim g v) (h' : IsLim g' v') :
    IsLim (fun k => if c then g k else g' k) (if c then v else v') := by
  by_cases hc : c
  · simp only [if_pos hc]; exact h
  · simp only [if_neg hc]; exact h'
theorem IsLim.bind {α β : Type} {g : Nat → Option α} {v : Option α} {q : Nat → α → Option β} {w : α → Option β}
    (h : IsLim g v) (hq : ∀ x, IsLim (fun k => q k x) (w x)) : IsLim (fun k => (g k).bind (q k)) (v.bind w) := by
  refine ⟨fun k r e => ?_, fun r => ?_⟩
  · obtain ⟨x, hx, hr⟩ := Option.bind_eq_some_iff.mp e
    exact Option.bind_eq_some_iff.mpr ⟨x, h.1 k x hx, (hq x).1 k r hr⟩
  · constructor
    · intro e
      obtain ⟨x, hx, hr⟩ := Option.bind_eq_some_iff.mp e
      obtain ⟨j, hj⟩ := (h.2 x).mp hx
      obtain ⟨k, hk⟩ := ((hq x).2 r).mp hr
      exact ⟨max j k, Option.bind_eq_some_iff.mpr ⟨x, leO_le h.1 (Nat.le_max_left j k) _ hj, leO_le (hq x).1 (Nat.le_max_right j k) _ hk⟩⟩
    · rintro ⟨k, e⟩
      obtain ⟨x, hx, hr⟩ := Option.bind_eq_some_iff.mp e
      exact Option.bind_eq_some_iff.mpr ⟨x, (h.2 x).mpr ⟨k, hx⟩, ((hq x).2 r).mpr ⟨k, hr⟩⟩
theorem IsLim.shift {α : Type} {g : Nat → Option α} {v : Option α} (h0 : g 0 = none) (h : IsLim (fun k => g (k + 1)) v) : IsLim g v := by
  refine ⟨fun k => ?_, fun r => ?_⟩
  · cases k with
    | zero => intro r e; rw [h0] at e; cases e
    | succ k => exact h.1 k
  · rw [h.2 r]
    constructor
    · rintro ⟨k, e⟩; exact ⟨k + 1, e⟩
    · rintro ⟨k, e⟩
      cases k with
      | zero => rw [h0] at e; cases e
      | succ k => exact ⟨k, e⟩
theorem IsLim.some_ {α : Type} {g : Nat → Option α} {v : Option α} {r : α} (h : IsLim g v) (e : v = some r) : ∃ k, g k = some r := (h.2 r).mp e
end Go.Proofs.Ytbaicdgkpnbipaa.P
end
section
namespace Go.Proofs.Ytbaicdgkpnbipaa.P
open Go.RowKit Go.Proofs.YtbaicdgkpnbipaaW.PrintWords Go.Proofs.YtbaicdgkpnbipaaW.PrintLast Go.Proofs.YtbaicdgkpnbipaaW.PrintMore
set_option linter.unusedVariables false
noncomputable def qas.l0d (x0 : List Int) (x3 : List Int) (x4 : Int) : Option (List Int) := lim (fun k => qas.l0 k x0 x3 x4)
theorem qas.l0lim (x0 : List Int) (x3 : List Int) (x4 : Int) : IsLim (fun k => qas.l0 k x0 x3 x4) (qas.l0d x0 x3 x4) := lim_spec (fun k => (qas.mono_l k) x0 x3 x4)
theorem qas.l0d_eq (x0 : List Int) (x3 : List Int) (x4 : Int) : qas.l0d x0 x3 x4 = if x4 < (x0.length : Int) then (if 0 ≤ x4 then (if x4 < (x3.length : Int) then (qas.l0d x0 (x3.set (x4 : Int).toNat (rd x0 x4)) (wrap64 (x4 + 1))) else (none)) else (none)) else (some x3) := by
  refine IsLim.unique (qas.l0lim _ _ _) ?_
  refine IsLim.shift (by rfl) ?_
  simp only [qas.l0]
  repeat' (first | exact IsLim.const _ | refine IsLim.ite ?_ ?_ | refine IsLim.bind ?_ (fun _ => ?_) | exact qas.l0lim ..)
noncomputable def qas.d (l0 : List Int) : Option (List Int) := lim (fun k => qas.f k l0)
theorem qas.lim (l0 : List Int) : IsLim (fun k => qas.f k l0) (qas.d l0) := lim_spec (fun k => qas.mono l0 k)
theorem qas.d_eq (l0 : List Int) : qas.d l0 = if 0 ≤ (l0.length : Int) then (if ((l0.length : Int) : Int).toNat ≤ 35184372088832 then (qas.l0d l0 (List.replicate ((l0.length : Int) : Int).toNat 0) 0) else (none)) else (none) := by
  refine IsLim.unique (qas.lim _) ?_
  unfold qas.f
  repeat' (first | exact IsLim.const _ | refine IsLim.ite ?_ ?_ | refine IsLim.bind ?_ (fun _ => ?_) | exact qas.l0lim ..)
noncomputable def qaj.d (a0_0 : Int) (l0_1 : List Int) : Option (Int × List Int) := lim (fun k => qaj.f k a0_0 l0_1)
theorem qaj.lim (a0_0 : Int) (l0_1 : List Int) : IsLim (fun k => qaj.f k a0_0 l0_1) (qaj.d a0_0 l0_1) := lim_spec (fun k => qaj.mono a0_0 l0_1 k)
theorem qaj.d_eq (a0_0 : Int) (l0_1 : List Int) : qaj.d a0_0 l0_1 = (qas.d l0_1).bind fun t160 => (some (a0_0, t160)) := by
  refine IsLim.unique (qaj.lim _ _) ?_
  unfold qaj.f
  repeat' (first | exact IsLim.const _ | refine IsLim.ite ?_ ?_ | refine IsLim.bind ?_ (fun _ => ?_) | exact qas.lim ..)
noncomputable def qar.l0d (x0 : List Int) (x1 : List Int) (x5 : Int) : Option (Bool) := lim (fun k => qar.l0 k x0 x1 x5)
theorem qar.l0lim (x0 : List Int) (x1 : List Int) (x5 : Int) : IsLim (fun k => qar.l0 k x0 x1 x5) (qar.l0d x0 x1 x5) := lim_spec (fun k => (qar.mono_l k) x0 x1 x5)
theorem qar.l0d_eq (x0 : List Int) (x1 : List Int) (x5 : Int) : qar.l0d x0 x1 x5 = if x5 < (x0.length : Int) then (if 0 ≤ x5 then (if x5 < (x1.length : Int) then (if (rd x0 x5) = (rd x1 x5) then (qar.l0d x0 x1 (wrap64 (x5 + 1))) else (some false)) else (none)) else (none)) else (some true) := by
  refine IsLim.unique (qar.l0lim _ _ _) ?_
  refine IsLim.shift (by rfl) ?_
  simp only [qar.l0]
  repeat' (first | exact IsLim.const _ | refine IsLim.ite ?_ ?_ | refine IsLim.bind ?_ (fun _ => ?_) | exact qar.l0lim ..)
noncomputable def qar.d (l0 : List Int) (l1 : List Int) : Option (Bool) := lim (fun k => qar.f k l0 l1)
theorem qar.lim (l0 : List Int) (l1 : List Int) : IsLim (fun k => qar.f k l0 l1) (qar.d l0 l1) := lim_spec (fun k => qar.mono l0 l1 k)
theorem qar.d_eq (l0 : List Int) (l1 : List Int) : qar.d l0 l1 = if (l0.length : Int) = (l1.length : Int) then (qar.l0d l0 l1 0) else (some false) := by
  refine IsLim.unique (qar.lim _ _) ?_
  unfold qar.f
  repeat' (first | exact IsLim.const _ | refine IsLim.ite ?_ ?_ | refine IsLim.bind ?_ (fun _ => ?_) | exact qar.l0lim ..)
noncomputable def qak.d (a0_0 : Int) (l0_1 : List Int) (a1_0 : Int) (l1_1 : List Int) : Option (Bool) := lim (fun k => qak.f k a0_0 l0_1 a1_0 l1_1)
theorem qak.lim (a0_0 : Int) (l0_1 : List Int) (a1_0 : Int) (l1_1 : List Int) : IsLim (fun k => qak.f k a0_0 l0_1 a1_0 l1_1) (qak.d a0_0 l0_1 a1_0 l1_1) := lim_spec (fun k => qak.mono a0_0 l0_1 a1_0 l1_1 k)
theorem qak.d_eq (a0_0 : Int) (l0_1 : List Int) (a1_0 : Int) (l1_1 : List Int) : qak.d a0_0 l0_1 a1_0 l1_1 = if a0_0 = a1_0 then ((qar.d l0_1 l1_1).bind fun t229 => (if t229 = true then (some true) else (some false))) else (some false) := by
  refine IsLim.unique (qak.lim _ _ _ _) ?_
  unfold qak.f
  repeat' (first | exact IsLim.const _ | refine IsLim.ite ?_ ?_ | refine IsLim.bind ?_ (fun _ => ?_) | exact qar.lim ..)
noncomputable def qap.l0d (x0 : List Int) (x1 : Int) (x5 : Int) : Option (Int × List Int) := lim (fun k => qap.l0 k x0 x1 x5)
theorem qap.l0lim (x0 : List Int) (x1 : Int) (x5 : Int) : IsLim (fun k => qap.l0 k x0 x1 x5) (qap.l0d x0 x1 x5) := lim_spec (fun k => (qap.mono_l k) x0 x1 x5)
theorem qap.l0d_eq (x0 : List Int) (x1 : Int) (x5 : Int) : qap.l0d x0 x1 x5 = if x5 < (x0.length : Int) then (if 0 ≤ x5 then (qap.l0d (x0.set (x5 : Int).toNat x1) (wrap64 (x1 + 1)) (wrap64 (x5 + 1))) else (none)) else (some (x1, x0)) := by
  refine IsLim.unique (qap.l0lim _ _ _) ?_
  refine IsLim.shift (by rfl) ?_
  simp only [qap.l0]
  repeat' (first | exact IsLim.const _ | refine IsLim.ite ?_ ?_ | refine IsLim.bind ?_ (fun _ => ?_) | exact qap.l0lim ..)
noncomputable def qap.d (l0 : List Int) (a1 : Int) : Option (Int × List Int) := lim (fun k => qap.f k l0 a1)
theorem qap.lim (l0 : List Int) (a1 : Int) : IsLim (fun k => qap.f k l0 a1) (qap.d l0 a1) := lim_spec (fun k => qap.mono l0 a1 k)
theorem qap.d_eq (l0 : List Int) (a1 : Int) : qap.d l0 a1 = qap.l0d l0 a1 0 := by
  refine IsLim.unique (qap.lim _ _) ?_
  unfold qap.f
  repeat' (first | exact IsLim.const _ | refine IsLim.ite ?_ ?_ | refine IsLim.bind ?_ (fun _ => ?_) | exact qap.l0lim ..)
noncomputable def qaq.d (a0_0 : Int) (l0_1 : List Int) (a1 : Int) : Option (Int × List Int) := lim (fun k => qaq.f k a0_0 l0_1 a1)
theorem qaq.lim (a0_0 : Int) (l0_1 : List Int) (a1 : Int) : IsLim (fun k => qaq.f k a0_0 l0_1 a1) (qaq.d a0_0 l0_1 a1) := lim_spec (fun k => qaq.mono a0_0 l0_1 a1 k)
theorem qaq.d_eq (a0_0 : Int) (l0_1 : List Int) (a1 : Int) : qaq.d a0_0 l0_1 a1 = (qap.d l0_1 a1).bind fun bt232 => (some (bt232.1, bt232.2)) := by
  refine IsLim.unique (qaq.lim _ _ _) ?_
  unfold qaq.f
  repeat' (first | exact IsLim.const _ | refine IsLim.ite ?_ ?_ | refine IsLim.bind ?_ (fun _ => ?_) | exact qap.lim ..)
noncomputable def qao.l0d (x0 : List Int) (x1 : Int) (x5 : Int) : Option (Int) := lim (fun k => qao.l0 k x0 x1 x5)
theorem qao.l0lim (x0 : List Int) (x1 : Int) (x5 : Int) : IsLim (fun k => qao.l0 k x0 x1 x5) (qao.l0d x0 x1 x5) := lim_spec (fun k => (qao.mono_l k) x0 x1 x5)
theorem qao.l0d_eq (x0 : List Int) (x1 : Int) (x5 : Int) : qao.l0d x0 x1 x5 = if x5 < (x0.length : Int) then (if 0 ≤ x5 then (if (rd x0 x5) = x1 then (qao.l0d x0 (wrap64 (x1 + 1)) (wrap64 (x5 + 1))) else (some (-1))) else (none)) else (some x1) := by
  refine IsLim.unique (qao.l0lim _ _ _) ?_
  refine IsLim.shift (by rfl) ?_
  simp only [qao.l0]
  repeat' (first | exact IsLim.const _ | refine IsLim.ite ?_ ?_ | refine IsLim.bind ?_ (fun _ => ?_) | exact qao.l0lim ..)
noncomputable def qao.d (l0 : List Int) (a1 : Int) : Option (Int) := lim (fun k => qao.f k l0 a1)
theorem qao.lim (l0 : List Int) (a1 : Int) : IsLim (fun k => qao.f k l0 a1) (qao.d l0 a1) := lim_spec (fun k => qao.mono l0 a1 k)
theorem qao.d_eq (l0 : List Int) (a1 : Int) : qao.d l0 a1 = qao.l0d l0 a1 0 := by
  refine IsLim.unique (qao.lim _ _) ?_
  unfold qao.f
  repeat' (first | exact IsLim.const _ | refine IsLim.ite ?_ ?_ | refine IsLim.bind ?_ (fun _ => ?_) | exact qao.l0lim ..)
noncomputable def qax.d (a0_0 : Int) (l0_1 : List Int) (a1 : Int) : Option (Int) := lim (fun k => qax.f k a0_0 l0_1 a1)
theorem qax.lim (a0_0 : Int) (l0_1 : List Int) (a1 : Int) : IsLim (fun k => qax.f k a0_0 l0_1 a1) (qax.d a0_0 l0_1 a1) := lim_spec (fun k => qax.mono a0_0 l0_1 a1 k)
theorem qax.d_eq (a0_0 : Int) (l0_1 : List Int) (a1 : Int) : qax.d a0_0 l0_1 a1 = (qao.d l0_1 a1).bind fun t236 => (if t236 < 0 then (some (-1)) else (some t236)) := by
  refine IsLim.unique (qax.lim _ _ _) ?_
  unfold qax.f
  repeat' (first | exact IsLim.const _ | refine IsLim.ite ?_ ?_ | refine IsLim.bind ?_ (fun _ => ?_) | exact qao.lim ..)
noncomputable def qal.j0d (x17 : Bool) (x41000 : Int) (x41001 : List Int) : Option (Bool) := lim (fun k => qal.j0 k x17 x41000 x41001)
theorem qal.j0lim (x17 : Bool) (x41000 : Int) (x41001 : List Int) : IsLim (fun k => qal.j0 k x17 x41000 x41001) (qal.j0d x17 x41000 x41001) := lim_spec (fun k => (qal.mono_l k).1 x17 x41000 x41001)
noncomputable def qal.l0d (x3 : Int) (x41000 : Int) (x41001 : List Int) : Option (Bool) := lim (fun k => qal.l0 k x3 x41000 x41001)
theorem qal.l0lim (x3 : Int) (x41000 : Int) (x41001 : List Int) : IsLim (fun k => qal.l0 k x3 x41000 x41001) (qal.l0d x3 x41000 x41001) := lim_spec (fun k => (qal.mono_l k).2 x3 x41000 x41001)
theorem qal.j0d_eq (x17 : Bool) (x41000 : Int) (x41001 : List Int) : qal.j0d x17 x41000 x41001 = if x17 = true then (some false) else (qal.l0d 0 x41000 x41001) := by
  refine IsLim.unique (qal.j0lim _ _ _) ?_
  refine IsLim.shift (by rfl) ?_
  simp only [qal.j0]
  repeat' (first | exact IsLim.const _ | refine IsLim.ite ?_ ?_ | refine IsLim.bind ?_ (fun _ => ?_) | exact qal.l0lim ..)
theorem qal.l0d_eq (x3 : Int) (x41000 : Int) (x41001 : List Int) : qal.l0d x3 x41000 x41001 = if x3 < (x41001.length : Int) then (if 0 ≤ x3 then (if 0 ≤ (IntKind.u64.wrap (x41000)) then ((qa8.f (rd x41001 x3) 0 (wrap64 ((shl .i64 1 (IntKind.u64.wrap (x41000))) - 1))).bind fun t105 => (if t105 = true then (qal.l0d (wrap64 (x3 + 1)) x41000 x41001) else (some false))) else (none)) else (none)) else (some true) := by
  refine IsLim.unique (qal.l0lim _ _ _) ?_
  refine IsLim.shift (by rfl) ?_
  simp only [qal.l0]
  repeat' (first | exact IsLim.const _ | refine IsLim.ite ?_ ?_ | refine IsLim.bind ?_ (fun _ => ?_) | exact qal.l0lim ..)
noncomputable def qal.d (a0_0 : Int) (l0_1 : List Int) : Option (Bool) := lim (fun k => qal.f k a0_0 l0_1)
theorem qal.lim (a0_0 : Int) (l0_1 : List Int) : IsLim (fun k => qal.f k a0_0 l0_1) (qal.d a0_0 l0_1) := lim_spec (fun k => qal.mono a0_0 l0_1 k)
theorem qal.d_eq (a0_0 : Int) (l0_1 : List Int) : qal.d a0_0 l0_1 = (qa8.f a0_0 1 10).bind fun t103 => (if t103 = true then (qal.j0d (decide ((l0_1.length : Int) > 10)) a0_0 l0_1) else (qal.j0d true a0_0 l0_1)) := by
  refine IsLim.unique (qal.lim _ _) ?_
  unfold qal.f
  repeat' (first | exact IsLim.const _ | refine IsLim.ite ?_ ?_ | refine IsLim.bind ?_ (fun _ => ?_) | exact qal.j0lim ..)
noncomputable def qaa.l0d (x0 : Int) (x5 : List Int) (x6 : List Int) (x7 : Int) : Option (List Int) := lim (fun k => qaa.l0 k x0 x5 x6 x7)
theorem qaa.l0lim (x0 : Int) (x5 : List Int) (x6 : List Int) (x7 : Int) : IsLim (fun k => qaa.l0 k x0 x5 x6 x7) (qaa.l0d x0 x5 x6 x7) := lim_spec (fun k => (qaa.mono_l k).1 x0 x5 x6 x7)
noncomputable def qaa.l1d (x0 : Int) (x5 : List Int) (x6 : List Int) (x7 : Int) (x8 : Int) (x9 : Int) : Option (List Int) := lim (fun k => qaa.l1 k x0 x5 x6 x7 x8 x9)
theorem qaa.l1lim (x0 : Int) (x5 : List Int) (x6 : List Int) (x7 : Int) (x8 : Int) (x9 : Int) : IsLim (fun k => qaa.l1 k x0 x5 x6 x7 x8 x9) (qaa.l1d x0 x5 x6 x7 x8 x9) := lim_spec (fun k => (qaa.mono_l k).2.1 x0 x5 x6 x7 x8 x9)
noncomputable def qaa.j2d (x0 : Int) (x5 : List Int) (x6 : List Int) (x7 : Int) (x8 : Int) (x9 : Int) (x28 : Bool) : Option (List Int) := lim (fun k => qaa.j2 k x0 x5 x6 x7 x8 x9 x28)
theorem qaa.j2lim (x0 : Int) (x5 : List Int) (x6 : List Int) (x7 : Int) (x8 : Int) (x9 : Int) (x28 : Bool) : IsLim (fun k => qaa.j2 k x0 x5 x6 x7 x8 x9 x28) (qaa.j2d x0 x5 x6 x7 x8 x9 x28) := lim_spec (fun k => (qaa.mono_l k).2.2.1 x0 x5 x6 x7 x8 x9 x28)
noncomputable def qaa.l2d (x0 : Int) (x5 : List Int) (x6 : List Int) (x7 : Int) (x10 : Int) (x11 : Int) : Option (List Int) := lim (fun k => qaa.l2 k x0 x5 x6 x7 x10 x11)
theorem qaa.l2lim (x0 : Int) (x5 : List Int) (x6 : List Int) (x7 : Int) (x10 : Int) (x11 : Int) : IsLim (fun k => qaa.l2 k x0 x5 x6 x7 x10 x11) (qaa.l2d x0 x5 x6 x7 x10 x11) := lim_spec (fun k => (qaa.mono_l k).2.2.2.1 x0 x5 x6 x7 x10 x11)
noncomputable def qaa.l3d (x0 : Int) (x5 : List Int) (x6 : List Int) (x7 : Int) (x10 : Int) (x12 : Int) : Option (List Int) := lim (fun k => qaa.l3 k x0 x5 x6 x7 x10 x12)
theorem qaa.l3lim (x0 : Int) (x5 : List Int) (x6 : List Int) (x7 : Int) (x10 : Int) (x12 : Int) : IsLim (fun k => qaa.l3 k x0 x5 x6 x7 x10 x12) (qaa.l3d x0 x5 x6 x7 x10 x12) := lim_spec (fun k => (qaa.mono_l k).2.2.2.2 x0 x5 x6 x7 x10 x12)
theorem qaa.l0d_eq (x0 : Int) (x5 : List Int) (x6 : List Int) (x7 : Int) : qaa.l0d x0 x5 x6 x7 = if x7 < x0 then (qaa.l1d x0 x5 x6 x7 (-1) 0) else (some x6) := by
  refine IsLim.unique (qaa.l0lim _ _ _ _) ?_
  refine IsLim.shift (by rfl) ?_
  simp only [qaa.l0]
  repeat' (first | exact IsLim.const _ | refine IsLim.ite ?_ ?_ | refine IsLim.bind ?_ (fun _ => ?_) | exact qaa.l1lim ..)
theorem qaa.l1d_eq (x0 : Int) (x5 : List Int) (x6 : List Int) (x7 : Int) (x8 : Int) (x9 : Int) : qaa.l1d x0 x5 x6 x7 x8 x9 = if x9 < (x5.length : Int) then (qaa.j2d x0 x5 x6 x7 x8 x9 (decide (x8 < 0))) else (qaa.j2d x0 x5 x6 x7 x8 x9 false) := by
  refine IsLim.unique (qaa.l1lim _ _ _ _ _ _) ?_
  refine IsLim.shift (by rfl) ?_
  simp only [qaa.l1]
  repeat' (first | exact IsLim.const _ | refine IsLim.ite ?_ ?_ | refine IsLim.bind ?_ (fun _ => ?_) | exact qaa.j2lim ..)
theorem qaa.j2d_eq (x0 : Int) (x5 : List Int) (x6 : List Int) (x7 : Int) (x8 : Int) (x9 : Int) (x28 : Bool) : qaa.j2d x0 x5 x6 x7 x8 x9 x28 = if x28 = true then (if 0 ≤ x9 then (if x9 < (x5.length : Int) then ((qbb.f (rd x5 x9) x7).bind fun t119 => (if t119 = 1 then (qaa.l1d x0 x5 x6 x7 x9 (wrap64 (x9 + 1))) else (qaa.l1d x0 x5 x6 x7 x8 (wrap64 (x9 + 1))))) else (none)) else (none)) else (if x8 < 0 then (qaa.l0d x0 x5 x6 (wrap64 (x7 + 1))) else (if 0 ≤ x8 then (if x8 < (x5.length : Int) then (qaa.l2d x0 (x5.set (x8 : Int).toNat 0) x6 x7 (rd x5 x8) 0) else (none)) else (none))) := by
  refine IsLim.unique (qaa.j2lim _ _ _ _ _ _ _) ?_
  refine IsLim.shift (by rfl) ?_
  simp only [qaa.j2]
  repeat' (first | exact IsLim.const _ | refine IsLim.ite ?_ ?_ | refine IsLim.bind ?_ (fun _ => ?_) | exact qaa.l1lim .. | exact qaa.l0lim .. | exact qaa.l2lim ..)
theorem qaa.l2d_eq (x0 : Int) (x5 : List Int) (x6 : List Int) (x7 : Int) (x10 : Int) (x11 : Int) : qaa.l2d x0 x5 x6 x7 x10 x11 = if x11 < (x5.length : Int) then (if 0 ≤ x11 then ((qbb.f (rd x5 x11) x7).bind fun t123 => (if t123 = 1 then (qaa.l2d x0 (x5.set (x11 : Int).toNat (Go.bits .xor .i64 (rd x5 x11) x10)) x6 x7 x10 (wrap64 (x11 + 1))) else (qaa.l2d x0 x5 x6 x7 x10 (wrap64 (x11 + 1))))) else (none)) else (qaa.l3d x0 x5 x6 x7 x10 0) := by
  refine IsLim.unique (qaa.l2lim _ _ _ _ _ _) ?_
  refine IsLim.shift (by rfl) ?_
  simp only [qaa.l2]
  repeat' (first | exact IsLim.const _ | refine IsLim.ite ?_ ?_ | refine IsLim.bind ?_ (fun _ => ?_) | exact qaa.l2lim .. | exact qaa.l3lim ..)
theorem qaa.l3d_eq (x0 : Int) (x5 : List Int) (x6 : List Int) (x7 : Int) (x10 : Int) (x12 : Int) : qaa.l3d x0 x5 x6 x7 x10 x12 = if x12 < (x6.length : Int) then (if 0 ≤ x12 then ((qbb.f (rd x6 x12) x7).bind fun t127 => (if t127 = 1 then (qaa.l3d x0 x5 (x6.set (x12 : Int).toNat (Go.bits .xor .i64 (rd x6 x12) x10)) x7 x10 (wrap64 (x12 + 1))) else (qaa.l3d x0 x5 x6 x7 x10 (wrap64 (x12 + 1))))) else (none)) else (if x6.length < 17592186044416 then (qaa.l0d x0 x5 (x6 ++ [x10]) (wrap64 (x7 + 1))) else (none)) := by
  refine IsLim.unique (qaa.l3lim _ _ _ _ _ _) ?_
  refine IsLim.shift (by rfl) ?_
  simp only [qaa.l3]
  repeat' (first | exact IsLim.const _ | refine IsLim.ite ?_ ?_ | refine IsLim.bind ?_ (fun _ => ?_) | exact qaa.l3lim .. | exact qaa.l0lim ..)
noncomputable def qaa.d (a0 : Int) (l1 : List Int) : Option (List Int) := lim (fun k => qaa.f k a0 l1)
theorem qaa.lim (a0 : Int) (l1 : List Int) : IsLim (fun k => qaa.f k a0 l1) (qaa.d a0 l1) := lim_spec (fun k => qaa.mono a0 l1 k)
theorem qaa.d_eq (a0 : Int) (l1 : List Int) : qaa.d a0 l1 = (qbf.f l1).bind fun t112 => (qaa.l0d a0 t112 (([] : List Int)) 0) := by
  refine IsLim.unique (qaa.lim _ _) ?_
  unfold qaa.f
  repeat' (first | exact IsLim.const _ | refine IsLim.ite ?_ ?_ | refine IsLim.bind ?_ (fun _ => ?_) | exact qaa.l0lim ..)
noncomputable def qac.l0d (x0 : List Int) (x7 : Int) (x8 : Int) (x49000 : Int) (x49001 : List Int) : Option (Int) := lim (fun k => qac.l0 k x0 x7 x8 x49000 x49001)
theorem qac.l0lim (x0 : List Int) (x7 : Int) (x8 : Int) (x49000 : Int) (x49001 : List Int) : IsLim (fun k => qac.l0 k x0 x7 x8 x49000 x49001) (qac.l0d x0 x7 x8 x49000 x49001) := lim_spec (fun k => (qac.mono_l k) x0 x7 x8 x49000 x49001)
theorem qac.l0d_eq (x0 : List Int) (x7 : Int) (x8 : Int) (x49000 : Int) (x49001 : List Int) : qac.l0d x0 x7 x8 x49000 x49001 = if x8 < x7 then (if 0 ≤ x8 then (if x8 < (x0.length : Int) then ((qbd.f (rd x0 x8) x49000 x49001).bind fun t167 => (if t167 = true then (some x8) else (qac.l0d x0 x7 (wrap64 (x8 + 1)) x49000 x49001))) else (none)) else (none)) else (some (-1)) := by
  refine IsLim.unique (qac.l0lim _ _ _ _ _) ?_
  refine IsLim.shift (by rfl) ?_
  simp only [qac.l0]
  repeat' (first | exact IsLim.const _ | refine IsLim.ite ?_ ?_ | refine IsLim.bind ?_ (fun _ => ?_) | exact qac.l0lim ..)
noncomputable def qac.d (l0 : List Int) (a1_0 : Int) (l1_1 : List Int) : Option (Int) := lim (fun k => qac.f k l0 a1_0 l1_1)
theorem qac.lim (l0 : List Int) (a1_0 : Int) (l1_1 : List Int) : IsLim (fun k => qac.f k l0 a1_0 l1_1) (qac.d l0 a1_0 l1_1) := lim_spec (fun k => qac.mono l0 a1_0 l1_1 k)
theorem qac.d_eq (l0 : List Int) (a1_0 : Int) (l1_1 : List Int) : qac.d l0 a1_0 l1_1 = qac.l0d l0 (l0.length : Int) 0 a1_0 l1_1 := by
  refine IsLim.unique (qac.lim _ _ _) ?_
  unfold qac.f
  repeat' (first | exact IsLim.const _ | refine IsLim.ite ?_ ?_ | refine IsLim.bind ?_ (fun _ => ?_) | exact qac.l0lim ..)
noncomputable def qai.d (l0 : List Int) (a1_0 : Int) (l1_1 : List Int) : Option (Bool) := lim (fun k => qai.f k l0 a1_0 l1_1)
theorem qai.lim (l0 : List Int) (a1_0 : Int) (l1_1 : List Int) : IsLim (fun k => qai.f k l0 a1_0 l1_1) (qai.d l0 a1_0 l1_1) := lim_spec (fun k => qai.mono l0 a1_0 l1_1 k)
theorem qai.d_eq (l0 : List Int) (a1_0 : Int) (l1_1 : List Int) : qai.d l0 a1_0 l1_1 = (qac.d l0 a1_0 l1_1).bind fun t168 => (some (decide (t168 ≥ 0))) := by
  refine IsLim.unique (qai.lim _ _ _) ?_
  unfold qai.f
  repeat' (first | exact IsLim.const _ | refine IsLim.ite ?_ ?_ | refine IsLim.bind ?_ (fun _ => ?_) | exact qac.lim ..)
noncomputable def qa3.d (a0_0 : Int) (l0_1 : List Int) : Option (Bool) := lim (fun k => qa3.f k a0_0 l0_1)
theorem qa3.lim (a0_0 : Int) (l0_1 : List Int) : IsLim (fun k => qa3.f k a0_0 l0_1) (qa3.d a0_0 l0_1) := lim_spec (fun k => qa3.mono a0_0 l0_1 k)
theorem qa3.d_eq (a0_0 : Int) (l0_1 : List Int) : qa3.d a0_0 l0_1 = (qbc.f a0_0 1 10).bind fun t170 => (if t170 = true then (if (l0_1.length : Int) ≤ 10 then ((qai.d l0_1 a0_0 l0_1).bind fun t171 => (some (!t171))) else (some false)) else (some false)) := by
  refine IsLim.unique (qa3.lim _ _) ?_
  unfold qa3.f
  repeat' (first | exact IsLim.const _ | refine IsLim.ite ?_ ?_ | refine IsLim.bind ?_ (fun _ => ?_) | exact qai.lim ..)
noncomputable def qad.l0d (x0 : List Int) (x7 : Int) (x8 : Int) (x49000 : Int) : Option (Int) := lim (fun k => qad.l0 k x0 x7 x8 x49000)
theorem qad.l0lim (x0 : List Int) (x7 : Int) (x8 : Int) (x49000 : Int) : IsLim (fun k => qad.l0 k x0 x7 x8 x49000) (qad.l0d x0 x7 x8 x49000) := lim_spec (fun k => (qad.mono_l k) x0 x7 x8 x49000)
theorem qad.l0d_eq (x0 : List Int) (x7 : Int) (x8 : Int) (x49000 : Int) : qad.l0d x0 x7 x8 x49000 = if x8 < x7 then (if 0 ≤ x8 then (if x8 < (x0.length : Int) then ((qbg.f (rd x0 x8) x49000).bind fun t173 => (if t173 = true then (some x8) else (qad.l0d x0 x7 (wrap64 (x8 + 1)) x49000))) else (none)) else (none)) else (some (-1)) := by
  refine IsLim.unique (qad.l0lim _ _ _ _) ?_
  refine IsLim.shift (by rfl) ?_
  simp only [qad.l0]
  repeat' (first | exact IsLim.const _ | refine IsLim.ite ?_ ?_ | refine IsLim.bind ?_ (fun _ => ?_) | exact qad.l0lim ..)
noncomputable def qad.d (l0 : List Int) (a1_0 : Int) : Option (Int) := lim (fun k => qad.f k l0 a1_0)
theorem qad.lim (l0 : List Int) (a1_0 : Int) : IsLim (fun k => qad.f k l0 a1_0) (qad.d l0 a1_0) := lim_spec (fun k => qad.mono l0 a1_0 k)
theorem qad.d_eq (l0 : List Int) (a1_0 : Int) : qad.d l0 a1_0 = qad.l0d l0 (l0.length : Int) 0 a1_0 := by
  refine IsLim.unique (qad.lim _ _) ?_
  unfold qad.f
  repeat' (first | exact IsLim.const _ | refine IsLim.ite ?_ ?_ | refine IsLim.bind ?_ (fun _ => ?_) | exact qad.l0lim ..)
noncomputable def qaf.l0d (x0 : List Int) (x3 : Int) (x178000 : Int) : Option (List Int) := lim (fun k => qaf.l0 k x0 x3 x178000)
theorem qaf.l0lim (x0 : List Int) (x3 : Int) (x178000 : Int) : IsLim (fun k => qaf.l0 k x0 x3 x178000) (qaf.l0d x0 x3 x178000) := lim_spec (fun k => (qaf.mono_l k).1 x0 x3 x178000)
noncomputable def qaf.j1d (x0 : List Int) (x3 : Int) (x16 : Bool) (x178000 : Int) : Option (List Int) := lim (fun k => qaf.j1 k x0 x3 x16 x178000)
theorem qaf.j1lim (x0 : List Int) (x3 : Int) (x16 : Bool) (x178000 : Int) : IsLim (fun k => qaf.j1 k x0 x3 x16 x178000) (qaf.j1d x0 x3 x16 x178000) := lim_spec (fun k => (qaf.mono_l k).2.1 x0 x3 x16 x178000)
noncomputable def qaf.l1d (x0 : List Int) (x3 : Int) (x45 : Int) (x46 : Int) (x178000 : Int) : Option (List Int) := lim (fun k => qaf.l1 k x0 x3 x45 x46 x178000)
theorem qaf.l1lim (x0 : List Int) (x3 : Int) (x45 : Int) (x46 : Int) (x178000 : Int) : IsLim (fun k => qaf.l1 k x0 x3 x45 x46 x178000) (qaf.l1d x0 x3 x45 x46 x178000) := lim_spec (fun k => (qaf.mono_l k).2.2 x0 x3 x45 x46 x178000)
theorem qaf.l0d_eq (x0 : List Int) (x3 : Int) (x178000 : Int) : qaf.l0d x0 x3 x178000 = if x178000 < 62 then (qaf.j1d x0 x3 (decide (x3 < (x0.length : Int))) x178000) else (qaf.j1d x0 x3 false x178000) := by
  refine IsLim.unique (qaf.l0lim _ _ _) ?_
  refine IsLim.shift (by rfl) ?_
  simp only [qaf.l0]
  repeat' (first | exact IsLim.const _ | refine IsLim.ite ?_ ?_ | refine IsLim.bind ?_ (fun _ => ?_) | exact qaf.j1lim ..)
theorem qaf.j1d_eq (x0 : List Int) (x3 : Int) (x16 : Bool) (x178000 : Int) : qaf.j1d x0 x3 x16 x178000 = if x16 = true then (if 0 ≤ x3 then (if x3 ≤ (x0.length : Int) then ((qad.d (x0.drop (x3 : Int).toNat) x178000).bind fun t185 => (if t185 < 0 then (qaf.l0d x0 x3 (wrap64 (x178000 + 1))) else (if 0 ≤ (wrap64 (x3 + t185)) then (if (wrap64 (x3 + t185)) < (x0.length : Int) then (if x3 < (x0.length : Int) then (qaf.l1d ((x0.set (x3 : Int).toNat (rd x0 (wrap64 (x3 + t185)))).set ((wrap64 (x3 + t185)) : Int).toNat (rd x0 x3)) x3 (x0.length : Int) 0 x178000) else (none)) else (none)) else (none)))) else (none)) else (none)) else (if 0 ≤ x3 then (if x3 ≤ (x0.length : Int) then (some (x0.take (x3 : Int).toNat)) else (none)) else (none)) := by
  refine IsLim.unique (qaf.j1lim _ _ _ _) ?_
  refine IsLim.shift (by rfl) ?_
  simp only [qaf.j1]
  repeat' (first | exact IsLim.const _ | refine IsLim.ite ?_ ?_ | refine IsLim.bind ?_ (fun _ => ?_) | exact qad.lim .. | exact qaf.l0lim .. | exact qaf.l1lim ..)
theorem qaf.l1d_eq (x0 : List Int) (x3 : Int) (x45 : Int) (x46 : Int) (x178000 : Int) : qaf.l1d x0 x3 x45 x46 x178000 = if x46 < x45 then (if x46 = x3 then (qaf.l1d x0 x3 x45 (wrap64 (x46 + 1)) x178000) else (if 0 ≤ x46 then (if x46 < (x0.length : Int) then (if 0 ≤ x178000 then (if (Go.bits .and .i64 (shr .i64 (rd x0 x46) x178000) 1) = 1 then (if 0 ≤ x3 then (if x3 < (x0.length : Int) then (qaf.l1d (x0.set (x46 : Int).toNat (Go.bits .xor .i64 (rd x0 x46) (rd x0 x3))) x3 x45 (wrap64 (x46 + 1)) x178000) else (none)) else (none)) else (qaf.l1d x0 x3 x45 (wrap64 (x46 + 1)) x178000)) else (none)) else (none)) else (none))) else (qaf.l0d x0 (wrap64 (x3 + 1)) (wrap64 (x178000 + 1))) := by
  refine IsLim.unique (qaf.l1lim _ _ _ _ _) ?_
  refine IsLim.shift (by rfl) ?_
  simp only [qaf.l1]
  repeat' (first | exact IsLim.const _ | refine IsLim.ite ?_ ?_ | refine IsLim.bind ?_ (fun _ => ?_) | exact qaf.l1lim .. | exact qaf.l0lim ..)
noncomputable def qaf.d (l0 : List Int) : Option (List Int) := lim (fun k => qaf.f k l0)
theorem qaf.lim (l0 : List Int) : IsLim (fun k => qaf.f k l0) (qaf.d l0) := lim_spec (fun k => qaf.mono l0 k)
theorem qaf.d_eq (l0 : List Int) : qaf.d l0 = (qba.f l0).bind fun t174 => (qaf.l0d t174 0 0) := by
  refine IsLim.unique (qaf.lim _) ?_
  unfold qaf.f
  repeat' (first | exact IsLim.const _ | refine IsLim.ite ?_ ?_ | refine IsLim.bind ?_ (fun _ => ?_) | exact qaf.l0lim ..)
noncomputable def qay.d (a0_0 : Int) (l0_1 : List Int) (a1_0 : Int) (l1_1 : List Int) : Option (Int × List Int) := lim (fun k => qay.f k a0_0 l0_1 a1_0 l1_1)
theorem qay.lim (a0_0 : Int) (l0_1 : List Int) (a1_0 : Int) (l1_1 : List Int) : IsLim (fun k => qay.f k a0_0 l0_1 a1_0 l1_1) (qay.d a0_0 l0_1 a1_0 l1_1) := lim_spec (fun k => qay.mono a0_0 l0_1 a1_0 l1_1 k)
theorem qay.d_eq (a0_0 : Int) (l0_1 : List Int) (a1_0 : Int) (l1_1 : List Int) : qay.d a0_0 l0_1 a1_0 l1_1 = (qa7.f (([l0_1, l1_1] : List (List Int)))).bind fun t452 => ((qaf.d t452).bind fun t455 => (some (a0_0, t455))) := by
  refine IsLim.unique (qay.lim _ _ _ _) ?_
  unfold qay.f
  repeat' (first | exact IsLim.const _ | refine IsLim.ite ?_ ?_ | refine IsLim.bind ?_ (fun _ => ?_) | exact qaf.lim ..)
noncomputable def qa2.d (a0_0 : Int) (l0_1 : List Int) : Option (Int × List Int) := lim (fun k => qa2.f k a0_0 l0_1)
theorem qa2.lim (a0_0 : Int) (l0_1 : List Int) : IsLim (fun k => qa2.f k a0_0 l0_1) (qa2.d a0_0 l0_1) := lim_spec (fun k => qa2.mono a0_0 l0_1 k)
theorem qa2.d_eq (a0_0 : Int) (l0_1 : List Int) : qa2.d a0_0 l0_1 = (qaf.d l0_1).bind fun t198 => (some (a0_0, t198)) := by
  refine IsLim.unique (qa2.lim _ _) ?_
  unfold qa2.f
  repeat' (first | exact IsLim.const _ | refine IsLim.ite ?_ ?_ | refine IsLim.bind ?_ (fun _ => ?_) | exact qaf.lim ..)
noncomputable def qaw.l0d (x0 : Int) (x3 : Int) : Option (Int) := lim (fun k => qaw.l0 k x0 x3)
theorem qaw.l0lim (x0 : Int) (x3 : Int) : IsLim (fun k => qaw.l0 k x0 x3) (qaw.l0d x0 x3) := lim_spec (fun k => (qaw.mono_l k) x0 x3)
theorem qaw.l0d_eq (x0 : Int) (x3 : Int) : qaw.l0d x0 x3 = if 0 ≤ x3 then (if (Go.bits .and .i64 (shr .i64 x0 x3) 1) = 0 then (qaw.l0d x0 (wrap64 (x3 + 1))) else (some x3)) else (none) := by
  refine IsLim.unique (qaw.l0lim _ _) ?_
  refine IsLim.shift (by rfl) ?_
  simp only [qaw.l0]
  repeat' (first | exact IsLim.const _ | refine IsLim.ite ?_ ?_ | refine IsLim.bind ?_ (fun _ => ?_) | exact qaw.l0lim ..)
noncomputable def qaw.d (a0 : Int) : Option (Int) := lim (fun k => qaw.f k a0)
theorem qaw.lim (a0 : Int) : IsLim (fun k => qaw.f k a0) (qaw.d a0) := lim_spec (fun k => qaw.mono a0 k)
theorem qaw.d_eq (a0 : Int) : qaw.d a0 = qaw.l0d a0 0 := by
  refine IsLim.unique (qaw.lim _) ?_
  unfold qaw.f
  repeat' (first | exact IsLim.const _ | refine IsLim.ite ?_ ?_ | refine IsLim.bind ?_ (fun _ => ?_) | exact qaw.l0lim ..)
noncomputable def qae.l0d (x3 : List Int) (x4 : Int) (x15 : List Int) (x16 : Int) (x17 : Int) (x202000 : Int) (x202001 : List Int) : Option (Int × List Int) := lim (fun k => qae.l0 k x3 x4 x15 x16 x17 x202000 x202001)
theorem qae.l0lim (x3 : List Int) (x4 : Int) (x15 : List Int) (x16 : Int) (x17 : Int) (x202000 : Int) (x202001 : List Int) : IsLim (fun k => qae.l0 k x3 x4 x15 x16 x17 x202000 x202001) (qae.l0d x3 x4 x15 x16 x17 x202000 x202001) := lim_spec (fun k => (qae.mono_l k).1 x3 x4 x15 x16 x17 x202000 x202001)
noncomputable def qae.l1d (x3 : List Int) (x4 : Int) (x31 : Int) (x32 : Int) (x209000 : Int) (x209001 : List Int) : Option (Int × List Int) := lim (fun k => qae.l1 k x3 x4 x31 x32 x209000 x209001)
theorem qae.l1lim (x3 : List Int) (x4 : Int) (x31 : Int) (x32 : Int) (x209000 : Int) (x209001 : List Int) : IsLim (fun k => qae.l1 k x3 x4 x31 x32 x209000 x209001) (qae.l1d x3 x4 x31 x32 x209000 x209001) := lim_spec (fun k => (qae.mono_l k).2.1 x3 x4 x31 x32 x209000 x209001)
noncomputable def qae.l2d (x3 : List Int) (x4 : Int) (x8 : Int) (x9 : Int) (x31 : Int) (x32 : Int) (x42 : List Int) (x43 : Int) (x44 : Int) (x209000 : Int) (x209001 : List Int) : Option (Int × List Int) := lim (fun k => qae.l2 k x3 x4 x8 x9 x31 x32 x42 x43 x44 x209000 x209001)
theorem qae.l2lim (x3 : List Int) (x4 : Int) (x8 : Int) (x9 : Int) (x31 : Int) (x32 : Int) (x42 : List Int) (x43 : Int) (x44 : Int) (x209000 : Int) (x209001 : List Int) : IsLim (fun k => qae.l2 k x3 x4 x8 x9 x31 x32 x42 x43 x44 x209000 x209001) (qae.l2d x3 x4 x8 x9 x31 x32 x42 x43 x44 x209000 x209001) := lim_spec (fun k => (qae.mono_l k).2.2 x3 x4 x8 x9 x31 x32 x42 x43 x44 x209000 x209001)
theorem qae.l0d_eq (x3 : List Int) (x4 : Int) (x15 : List Int) (x16 : Int) (x17 : Int) (x202000 : Int) (x202001 : List Int) : qae.l0d x3 x4 x15 x16 x17 x202000 x202001 = if x17 < x16 then (if 0 ≤ x17 then (if x17 < (x15.length : Int) then ((qaw.d (rd x15 x17)).bind fun t207 => (if 0 ≤ t207 then (qae.l0d x3 (Go.bits .or .i64 x4 (shl .i64 1 t207)) x15 x16 (wrap64 (x17 + 1)) x202000 x202001) else (none))) else (none)) else (none)) else (qae.l1d x3 x4 x202000 0 x202000 ([] : List Int)) := by
  refine IsLim.unique (qae.l0lim _ _ _ _ _ _ _) ?_
  refine IsLim.shift (by rfl) ?_
  simp only [qae.l0]
  repeat' (first | exact IsLim.const _ | refine IsLim.ite ?_ ?_ | refine IsLim.bind ?_ (fun _ => ?_) | exact qaw.lim .. | exact qae.l0lim .. | exact qae.l1lim ..)
theorem qae.l1d_eq (x3 : List Int) (x4 : Int) (x31 : Int) (x32 : Int) (x209000 : Int) (x209001 : List Int) : qae.l1d x3 x4 x31 x32 x209000 x209001 = if x32 < x31 then (if 0 ≤ x32 then (if (Go.bits .and .i64 (shr .i64 x4 x32) 1) = 1 then (qae.l1d x3 x4 x31 (wrap64 (x32 + 1)) x209000 x209001) else (qae.l2d x3 x4 x32 (shl .i64 1 x32) x31 x32 x3 (x3.length : Int) 0 x209000 x209001)) else (none)) else ((qa2.d x209000 x209001).bind fun bt209 => (some (bt209.1, bt209.2))) := by
  refine IsLim.unique (qae.l1lim _ _ _ _ _ _) ?_
  refine IsLim.shift (by rfl) ?_
  simp only [qae.l1]
  repeat' (first | exact IsLim.const _ | refine IsLim.ite ?_ ?_ | refine IsLim.bind ?_ (fun _ => ?_) | exact qa2.lim .. | exact qae.l1lim .. | exact qae.l2lim ..)
theorem qae.l2d_eq (x3 : List Int) (x4 : Int) (x8 : Int) (x9 : Int) (x31 : Int) (x32 : Int) (x42 : List Int) (x43 : Int) (x44 : Int) (x209000 : Int) (x209001 : List Int) : qae.l2d x3 x4 x8 x9 x31 x32 x42 x43 x44 x209000 x209001 = if x44 < x43 then (if 0 ≤ x44 then (if x44 < (x42.length : Int) then (if 0 ≤ x8 then (if (Go.bits .and .i64 (shr .i64 (rd x42 x44) x8) 1) = 1 then ((qaw.d (rd x42 x44)).bind fun t214 => (if 0 ≤ t214 then (qae.l2d x3 x4 x8 (Go.bits .or .i64 x9 (shl .i64 1 t214)) x31 x32 x42 x43 (wrap64 (x44 + 1)) x209000 x209001) else (none))) else (qae.l2d x3 x4 x8 x9 x31 x32 x42 x43 (wrap64 (x44 + 1)) x209000 x209001)) else (none)) else (none)) else (none)) else (if x209001.length < 17592186044416 then (qae.l1d x3 x4 x31 (wrap64 (x32 + 1)) x209000 (x209001 ++ [x9])) else (none)) := by
  refine IsLim.unique (qae.l2lim _ _ _ _ _ _ _ _ _ _ _) ?_
  refine IsLim.shift (by rfl) ?_
  simp only [qae.l2]
  repeat' (first | exact IsLim.const _ | refine IsLim.ite ?_ ?_ | refine IsLim.bind ?_ (fun _ => ?_) | exact qaw.lim .. | exact qae.l2lim .. | exact qae.l1lim ..)
noncomputable def qae.d (a0_0 : Int) (l0_1 : List Int) : Option (Int × List Int) := lim (fun k => qae.f k a0_0 l0_1)
theorem qae.lim (a0_0 : Int) (l0_1 : List Int) : IsLim (fun k => qae.f k a0_0 l0_1) (qae.d a0_0 l0_1) := lim_spec (fun k => qae.mono a0_0 l0_1 k)
theorem qae.d_eq (a0_0 : Int) (l0_1 : List Int) : qae.d a0_0 l0_1 = (qaf.d l0_1).bind fun t203 => (qae.l0d t203 0 t203 (t203.length : Int) 0 a0_0 l0_1) := by
  refine IsLim.unique (qae.lim _ _) ?_
  unfold qae.f
  repeat' (first | exact IsLim.const _ | refine IsLim.ite ?_ ?_ | refine IsLim.bind ?_ (fun _ => ?_) | exact qaf.lim .. | exact qae.l0lim ..)
noncomputable def qah.l0d (x0 : List Int) (x1 : List Int) (x12 : Int) (x13 : Int) : Option (Bool) := lim (fun k => qah.l0 k x0 x1 x12 x13)
theorem qah.l0lim (x0 : List Int) (x1 : List Int) (x12 : Int) (x13 : Int) : IsLim (fun k => qah.l0 k x0 x1 x12 x13) (qah.l0d x0 x1 x12 x13) := lim_spec (fun k => (qah.mono_l k) x0 x1 x12 x13)
theorem qah.l0d_eq (x0 : List Int) (x1 : List Int) (x12 : Int) (x13 : Int) : qah.l0d x0 x1 x12 x13 = if x13 < x12 then (if 0 ≤ x13 then (if x13 < (x0.length : Int) then (if x13 < (x1.length : Int) then (if (rd x0 x13) = (rd x1 x13) then (qah.l0d x0 x1 x12 (wrap64 (x13 + 1))) else (some false)) else (none)) else (none)) else (none)) else (some true) := by
  refine IsLim.unique (qah.l0lim _ _ _ _) ?_
  refine IsLim.shift (by rfl) ?_
  simp only [qah.l0]
  repeat' (first | exact IsLim.const _ | refine IsLim.ite ?_ ?_ | refine IsLim.bind ?_ (fun _ => ?_) | exact qah.l0lim ..)
noncomputable def qah.d (l0 : List Int) (l1 : List Int) : Option (Bool) := lim (fun k => qah.f k l0 l1)
theorem qah.lim (l0 : List Int) (l1 : List Int) : IsLim (fun k => qah.f k l0 l1) (qah.d l0 l1) := lim_spec (fun k => qah.mono l0 l1 k)
theorem qah.d_eq (l0 : List Int) (l1 : List Int) : qah.d l0 l1 = if (l0.length : Int) = (l1.length : Int) then (qah.l0d l0 l1 (l0.length : Int) 0) else (some false) := by
  refine IsLim.unique (qah.lim _ _) ?_
  unfold qah.f
  repeat' (first | exact IsLim.const _ | refine IsLim.ite ?_ ?_ | refine IsLim.bind ?_ (fun _ => ?_) | exact qah.l0lim ..)
noncomputable def qa0.d (a0_0 : Int) (l0_1 : List Int) : Option (Bool) := lim (fun k => qa0.f k a0_0 l0_1)
theorem qa0.lim (a0_0 : Int) (l0_1 : List Int) : IsLim (fun k => qa0.f k a0_0 l0_1) (qa0.d a0_0 l0_1) := lim_spec (fun k => qa0.mono a0_0 l0_1 k)
theorem qa0.d_eq (a0_0 : Int) (l0_1 : List Int) : qa0.d a0_0 l0_1 = (qa3.d a0_0 l0_1).bind fun t437 => (if t437 = true then ((qaf.d l0_1).bind fun t438 => ((qah.d t438 l0_1).bind fun t441 => (some t441))) else (some false)) := by
  refine IsLim.unique (qa0.lim _ _) ?_
  unfold qa0.f
  repeat' (first | exact IsLim.const _ | refine IsLim.ite ?_ ?_ | refine IsLim.bind ?_ (fun _ => ?_) | exact qa3.lim .. | exact qaf.lim .. | exact qah.lim ..)
noncomputable def qau.l0d (x0 : List Int) (x1 : List Int) (x5 : Int) : Option (Bool) := lim (fun k => qau.l0 k x0 x1 x5)
theorem qau.l0lim (x0 : List Int) (x1 : List Int) (x5 : Int) : IsLim (fun k => qau.l0 k x0 x1 x5) (qau.l0d x0 x1 x5) := lim_spec (fun k => (qau.mono_l k) x0 x1 x5)
theorem qau.l0d_eq (x0 : List Int) (x1 : List Int) (x5 : Int) : qau.l0d x0 x1 x5 = if x5 < (x0.length : Int) then (if 0 ≤ x5 then (if x5 < (x1.length : Int) then (if (rd x0 x5) = (rd x1 x5) then (qau.l0d x0 x1 (wrap64 (x5 + 1))) else (some false)) else (none)) else (none)) else (some true) := by
  refine IsLim.unique (qau.l0lim _ _ _) ?_
  refine IsLim.shift (by rfl) ?_
  simp only [qau.l0]
  repeat' (first | exact IsLim.const _ | refine IsLim.ite ?_ ?_ | refine IsLim.bind ?_ (fun _ => ?_) | exact qau.l0lim ..)
noncomputable def qau.d (l0 : List Int) (l1 : List Int) : Option (Bool) := lim (fun k => qau.f k l0 l1)
theorem qau.lim (l0 : List Int) (l1 : List Int) : IsLim (fun k => qau.f k l0 l1) (qau.d l0 l1) := lim_spec (fun k => qau.mono l0 l1 k)
theorem qau.d_eq (l0 : List Int) (l1 : List Int) : qau.d l0 l1 = if (l0.length : Int) = (l1.length : Int) then (qau.l0d l0 l1 0) else (some false) := by
  refine IsLim.unique (qau.lim _ _) ?_
  unfold qau.f
  repeat' (first | exact IsLim.const _ | refine IsLim.ite ?_ ?_ | refine IsLim.bind ?_ (fun _ => ?_) | exact qau.l0lim ..)
noncomputable def qam.j0d (x5 : Bool) (x443000 : Int) (x443001 : List Int) (x444000 : Int) (x444001 : List Int) : Option (Int) := lim (fun k => qam.j0 k x5 x443000 x443001 x444000 x444001)
theorem qam.j0lim (x5 : Bool) (x443000 : Int) (x443001 : List Int) (x444000 : Int) (x444001 : List Int) : IsLim (fun k => qam.j0 k x5 x443000 x443001 x444000 x444001) (qam.j0d x5 x443000 x443001 x444000 x444001) := lim_spec (fun k => (qam.mono_l k) x5 x443000 x443001 x444000 x444001)
theorem qam.j0d_eq (x5 : Bool) (x443000 : Int) (x443001 : List Int) (x444000 : Int) (x444001 : List Int) : qam.j0d x5 x443000 x443001 x444000 x444001 = if x5 = true then (some 1) else (if x443000 = x444000 then (some 0) else (some 2)) := by
  refine IsLim.unique (qam.j0lim _ _ _ _ _) ?_
  refine IsLim.shift (by rfl) ?_
  simp only [qam.j0]
  repeat' (first | exact IsLim.const _ | refine IsLim.ite ?_ ?_ | refine IsLim.bind ?_ (fun _ => ?_))
noncomputable def qam.d (a0_0 : Int) (l0_1 : List Int) (a1_0 : Int) (l1_1 : List Int) : Option (Int) := lim (fun k => qam.f k a0_0 l0_1 a1_0 l1_1)
theorem qam.lim (a0_0 : Int) (l0_1 : List Int) (a1_0 : Int) (l1_1 : List Int) : IsLim (fun k => qam.f k a0_0 l0_1 a1_0 l1_1) (qam.d a0_0 l0_1 a1_0 l1_1) := lim_spec (fun k => qam.mono a0_0 l0_1 a1_0 l1_1 k)
theorem qam.d_eq (a0_0 : Int) (l0_1 : List Int) (a1_0 : Int) (l1_1 : List Int) : qam.d a0_0 l0_1 a1_0 l1_1 = (qa0.d a0_0 l0_1).bind fun t444 => (if t444 = true then ((qa0.d a1_0 l1_1).bind fun t445 => (qam.j0d (!t445) a0_0 l0_1 a1_0 l1_1)) else (qam.j0d true a0_0 l0_1 a1_0 l1_1)) := by
  refine IsLim.unique (qam.lim _ _ _ _) ?_
  unfold qam.f
  repeat' (first | exact IsLim.const _ | refine IsLim.ite ?_ ?_ | refine IsLim.bind ?_ (fun _ => ?_) | exact qa0.lim .. | exact qam.j0lim ..)
noncomputable def qa5.d (a0_0 : Int) (l0_1 : List Int) (a1_0 : Int) (l1_1 : List Int) : Option (Int × List Int) := lim (fun k => qa5.f k a0_0 l0_1 a1_0 l1_1)
theorem qa5.lim (a0_0 : Int) (l0_1 : List Int) (a1_0 : Int) (l1_1 : List Int) : IsLim (fun k => qa5.f k a0_0 l0_1 a1_0 l1_1) (qa5.d a0_0 l0_1 a1_0 l1_1) := lim_spec (fun k => qa5.mono a0_0 l0_1 a1_0 l1_1 k)
theorem qa5.d_eq (a0_0 : Int) (l0_1 : List Int) (a1_0 : Int) (l1_1 : List Int) : qa5.d a0_0 l0_1 a1_0 l1_1 = (qae.d a0_0 l0_1).bind fun bt469 => ((qae.d a1_0 l1_1).bind fun bt473 => ((qay.d bt469.1 bt469.2 bt473.1 bt473.2).bind fun bt477 => ((qae.d bt477.1 bt477.2).bind fun bt481 => (some (bt481.1, bt481.2))))) := by
  refine IsLim.unique (qa5.lim _ _ _ _) ?_
  unfold qa5.f
  repeat' (first | exact IsLim.const _ | refine IsLim.ite ?_ ?_ | refine IsLim.bind ?_ (fun _ => ?_) | exact qae.lim .. | exact qay.lim ..)
noncomputable def qaz.d (a0_0 : Int) (l0_1 : List Int) (a1_0 : Int) (l1_1 : List Int) : Option (Int × List Int × Int) := lim (fun k => qaz.f k a0_0 l0_1 a1_0 l1_1)
theorem qaz.lim (a0_0 : Int) (l0_1 : List Int) (a1_0 : Int) (l1_1 : List Int) : IsLim (fun k => qaz.f k a0_0 l0_1 a1_0 l1_1) (qaz.d a0_0 l0_1 a1_0 l1_1) := lim_spec (fun k => qaz.mono a0_0 l0_1 a1_0 l1_1 k)
theorem qaz.d_eq (a0_0 : Int) (l0_1 : List Int) (a1_0 : Int) (l1_1 : List Int) : qaz.d a0_0 l0_1 a1_0 l1_1 = (qam.d a0_0 l0_1 a1_0 l1_1).bind fun t488 => (if t488 = 0 then ((qa5.d a0_0 l0_1 a1_0 l1_1).bind fun bt489 => (some (bt489.1, bt489.2, 0))) else (some (0, ([] : List Int), t488))) := by
  refine IsLim.unique (qaz.lim _ _ _ _) ?_
  unfold qaz.f
  repeat' (first | exact IsLim.const _ | refine IsLim.ite ?_ ?_ | refine IsLim.bind ?_ (fun _ => ?_) | exact qam.lim .. | exact qa5.lim ..)
noncomputable def qa6.d (a0_0 : Int) (l0_1 : List Int) (a1_0 : Int) (l1_1 : List Int) : Option (Int × List Int) := lim (fun k => qa6.f k a0_0 l0_1 a1_0 l1_1)
theorem qa6.lim (a0_0 : Int) (l0_1 : List Int) (a1_0 : Int) (l1_1 : List Int) : IsLim (fun k => qa6.f k a0_0 l0_1 a1_0 l1_1) (qa6.d a0_0 l0_1 a1_0 l1_1) := lim_spec (fun k => qa6.mono a0_0 l0_1 a1_0 l1_1 k)
theorem qa6.d_eq (a0_0 : Int) (l0_1 : List Int) (a1_0 : Int) (l1_1 : List Int) : qa6.d a0_0 l0_1 a1_0 l1_1 = (qbf.f l0_1).bind fun t617 => (if t617.length + l1_1.length < 17592186044416 then ((qaa.d a0_0 (t617 ++ l1_1)).bind fun t623 => (some (a0_0, t623))) else (none)) := by
  refine IsLim.unique (qa6.lim _ _ _ _) ?_
  unfold qa6.f
  repeat' (first | exact IsLim.const _ | refine IsLim.ite ?_ ?_ | refine IsLim.bind ?_ (fun _ => ?_) | exact qaa.lim ..)
noncomputable def qan.l0d (x5 : Int) (x6 : Int) : Option (Int) := lim (fun k => qan.l0 k x5 x6)
theorem qan.l0lim (x5 : Int) (x6 : Int) : IsLim (fun k => qan.l0 k x5 x6) (qan.l0d x5 x6) := lim_spec (fun k => (qan.mono_l k) x5 x6)
theorem qan.l0d_eq (x5 : Int) (x6 : Int) : qan.l0d x5 x6 = if x6 > 0 then (qan.l0d (Go.bits .xor .i64 x5 (Go.bits .and .i64 x6 1)) (wrap64 (Int.tdiv x6 2))) else (some x5) := by
  refine IsLim.unique (qan.l0lim _ _) ?_
  refine IsLim.shift (by rfl) ?_
  simp only [qan.l0]
  repeat' (first | exact IsLim.const _ | refine IsLim.ite ?_ ?_ | refine IsLim.bind ?_ (fun _ => ?_) | exact qan.l0lim ..)
noncomputable def qan.d (a0 : Int) (a1 : Int) : Option (Int) := lim (fun k => qan.f k a0 a1)
theorem qan.lim (a0 : Int) (a1 : Int) : IsLim (fun k => qan.f k a0 a1) (qan.d a0 a1) := lim_spec (fun k => qan.mono a0 a1 k)
theorem qan.d_eq (a0 : Int) (a1 : Int) : qan.d a0 a1 = qan.l0d 0 (Go.bits .and .i64 a0 a1) := by
  refine IsLim.unique (qan.lim _ _) ?_
  unfold qan.f
  repeat' (first | exact IsLim.const _ | refine IsLim.ite ?_ ?_ | refine IsLim.bind ?_ (fun _ => ?_) | exact qan.l0lim ..)
noncomputable def qag.l0d (x0 : Int) (x1 : List Int) (x5 : List Int) (x6 : Int) : Option (Int × List Int) := lim (fun k => qag.l0 k x0 x1 x5 x6)
theorem qag.l0lim (x0 : Int) (x1 : List Int) (x5 : List Int) (x6 : Int) : IsLim (fun k => qag.l0 k x0 x1 x5 x6) (qag.l0d x0 x1 x5 x6) := lim_spec (fun k => (qag.mono_l k).1 x0 x1 x5 x6)
noncomputable def qag.l1d (x0 : Int) (x1 : List Int) (x5 : List Int) (x6 : Int) (x7 : Bool) (x8 : Int) : Option (Int × List Int) := lim (fun k => qag.l1 k x0 x1 x5 x6 x7 x8)
theorem qag.l1lim (x0 : Int) (x1 : List Int) (x5 : List Int) (x6 : Int) (x7 : Bool) (x8 : Int) : IsLim (fun k => qag.l1 k x0 x1 x5 x6 x7 x8) (qag.l1d x0 x1 x5 x6 x7 x8) := lim_spec (fun k => (qag.mono_l k).2 x0 x1 x5 x6 x7 x8)
theorem qag.l0d_eq (x0 : Int) (x1 : List Int) (x5 : List Int) (x6 : Int) : qag.l0d x0 x1 x5 x6 = if 0 ≤ (IntKind.u64.wrap (x0)) then (if x6 < (shl .i64 1 (IntKind.u64.wrap (x0))) then (qag.l1d x0 x1 x5 x6 true 0) else ((qaa.d x0 x5).bind fun t137 => (some (x0, t137)))) else (none) := by
  refine IsLim.unique (qag.l0lim _ _ _ _) ?_
  refine IsLim.shift (by rfl) ?_
  simp only [qag.l0]
  repeat' (first | exact IsLim.const _ | refine IsLim.ite ?_ ?_ | refine IsLim.bind ?_ (fun _ => ?_) | exact qaa.lim .. | exact qag.l1lim ..)
theorem qag.l1d_eq (x0 : Int) (x1 : List Int) (x5 : List Int) (x6 : Int) (x7 : Bool) (x8 : Int) : qag.l1d x0 x1 x5 x6 x7 x8 = if x8 < (x1.length : Int) then (if x7 = true then (if 0 ≤ x8 then ((qan.d (rd x1 x8) x6).bind fun t141 => (qag.l1d x0 x1 x5 x6 (t141 == 0) (wrap64 (x8 + 1)))) else (none)) else (qag.l0d x0 x1 x5 (wrap64 (x6 + 1)))) else (if x7 = true then (if x5.length < 17592186044416 then (qag.l0d x0 x1 (x5 ++ [x6]) (wrap64 (x6 + 1))) else (none)) else (qag.l0d x0 x1 x5 (wrap64 (x6 + 1)))) := by
  refine IsLim.unique (qag.l1lim _ _ _ _ _ _) ?_
  refine IsLim.shift (by rfl) ?_
  simp only [qag.l1]
  repeat' (first | exact IsLim.const _ | refine IsLim.ite ?_ ?_ | refine IsLim.bind ?_ (fun _ => ?_) | exact qan.lim .. | exact qag.l1lim .. | exact qag.l0lim ..)
noncomputable def qag.d (a0 : Int) (l1 : List Int) : Option (Int × List Int) := lim (fun k => qag.f k a0 l1)
theorem qag.lim (a0 : Int) (l1 : List Int) : IsLim (fun k => qag.f k a0 l1) (qag.d a0 l1) := lim_spec (fun k => qag.mono a0 l1 k)
theorem qag.d_eq (a0 : Int) (l1 : List Int) : qag.d a0 l1 = qag.l0d a0 l1 (([] : List Int)) 0 := by
  refine IsLim.unique (qag.lim _ _) ?_
  unfold qag.f
  repeat' (first | exact IsLim.const _ | refine IsLim.ite ?_ ?_ | refine IsLim.bind ?_ (fun _ => ?_) | exact qag.l0lim ..)
noncomputable def qa1.d (a0_0 : Int) (l0_1 : List Int) (a1_0 : Int) (l1_1 : List Int) : Option (Int × List Int) := lim (fun k => qa1.f k a0_0 l0_1 a1_0 l1_1)
theorem qa1.lim (a0_0 : Int) (l0_1 : List Int) (a1_0 : Int) (l1_1 : List Int) : IsLim (fun k => qa1.f k a0_0 l0_1 a1_0 l1_1) (qa1.d a0_0 l0_1 a1_0 l1_1) := lim_spec (fun k => qa1.mono a0_0 l0_1 a1_0 l1_1 k)
theorem qa1.d_eq (a0_0 : Int) (l0_1 : List Int) (a1_0 : Int) (l1_1 : List Int) : qa1.d a0_0 l0_1 a1_0 l1_1 = (qag.d a0_0 l0_1).bind fun bt1155 => ((qag.d a1_0 l1_1).bind fun bt1160 => ((qa6.d bt1155.1 bt1155.2 bt1160.1 bt1160.2).bind fun bt1165 => ((qag.d bt1165.1 bt1165.2).bind fun bt1170 => (some (bt1170.1, bt1170.2))))) := by
  refine IsLim.unique (qa1.lim _ _ _ _) ?_
  unfold qa1.f
  repeat' (first | exact IsLim.const _ | refine IsLim.ite ?_ ?_ | refine IsLim.bind ?_ (fun _ => ?_) | exact qag.lim .. | exact qa6.lim ..)
noncomputable def qav.d (a0_0 : Int) (l0_1 : List Int) : Option (Bool) := lim (fun k => qav.f k a0_0 l0_1)
theorem qav.lim (a0_0 : Int) (l0_1 : List Int) : IsLim (fun k => qav.f k a0_0 l0_1) (qav.d a0_0 l0_1) := lim_spec (fun k => qav.mono a0_0 l0_1 k)
theorem qav.d_eq (a0_0 : Int) (l0_1 : List Int) : qav.d a0_0 l0_1 = (qal.d a0_0 l0_1).bind fun t495 => (if t495 = true then ((qaa.d a0_0 l0_1).bind fun t496 => ((qau.d t496 l0_1).bind fun t499 => (some t499))) else (some false)) := by
  refine IsLim.unique (qav.lim _ _) ?_
  unfold qav.f
  repeat' (first | exact IsLim.const _ | refine IsLim.ite ?_ ?_ | refine IsLim.bind ?_ (fun _ => ?_) | exact qal.lim .. | exact qaa.lim .. | exact qau.lim ..)
noncomputable def qat.j0d (x12 : Bool) (x41000 : Int) (x41001 : List Int) (x49000 : Int) (x49001 : List Int) : Option (Int) := lim (fun k => qat.j0 k x12 x41000 x41001 x49000 x49001)
theorem qat.j0lim (x12 : Bool) (x41000 : Int) (x41001 : List Int) (x49000 : Int) (x49001 : List Int) : IsLim (fun k => qat.j0 k x12 x41000 x41001 x49000 x49001) (qat.j0d x12 x41000 x41001 x49000 x49001) := lim_spec (fun k => (qat.mono_l k) x12 x41000 x41001 x49000 x49001)
theorem qat.j0d_eq (x12 : Bool) (x41000 : Int) (x41001 : List Int) (x49000 : Int) (x49001 : List Int) : qat.j0d x12 x41000 x41001 x49000 x49001 = if x12 = true then (some 1) else (if x41000 = x49000 then (some 0) else (some 2)) := by
  refine IsLim.unique (qat.j0lim _ _ _ _ _) ?_
  refine IsLim.shift (by rfl) ?_
  simp only [qat.j0]
  repeat' (first | exact IsLim.const _ | refine IsLim.ite ?_ ?_ | refine IsLim.bind ?_ (fun _ => ?_))
noncomputable def qat.d (a0_0 : Int) (l0_1 : List Int) (a1_0 : Int) (l1_1 : List Int) : Option (Int) := lim (fun k => qat.f k a0_0 l0_1 a1_0 l1_1)
theorem qat.lim (a0_0 : Int) (l0_1 : List Int) (a1_0 : Int) (l1_1 : List Int) : IsLim (fun k => qat.f k a0_0 l0_1 a1_0 l1_1) (qat.d a0_0 l0_1 a1_0 l1_1) := lim_spec (fun k => qat.mono a0_0 l0_1 a1_0 l1_1 k)
theorem qat.d_eq (a0_0 : Int) (l0_1 : List Int) (a1_0 : Int) (l1_1 : List Int) : qat.d a0_0 l0_1 a1_0 l1_1 = (qav.d a0_0 l0_1).bind fun t614 => (if t614 = true then ((qav.d a1_0 l1_1).bind fun t615 => (qat.j0d (!t615) a0_0 l0_1 a1_0 l1_1)) else (qat.j0d true a0_0 l0_1 a1_0 l1_1)) := by
  refine IsLim.unique (qat.lim _ _ _ _) ?_
  unfold qat.f
  repeat' (first | exact IsLim.const _ | refine IsLim.ite ?_ ?_ | refine IsLim.bind ?_ (fun _ => ?_) | exact qav.lim .. | exact qat.j0lim ..)
noncomputable def qa4.d (a0_0 : Int) (l0_1 : List Int) (a1_0 : Int) (l1_1 : List Int) : Option (Int × List Int × Int) := lim (fun k => qa4.f k a0_0 l0_1 a1_0 l1_1)
theorem qa4.lim (a0_0 : Int) (l0_1 : List Int) (a1_0 : Int) (l1_1 : List Int) : IsLim (fun k => qa4.f k a0_0 l0_1 a1_0 l1_1) (qa4.d a0_0 l0_1 a1_0 l1_1) := lim_spec (fun k => qa4.mono a0_0 l0_1 a1_0 l1_1 k)
theorem qa4.d_eq (a0_0 : Int) (l0_1 : List Int) (a1_0 : Int) (l1_1 : List Int) : qa4.d a0_0 l0_1 a1_0 l1_1 = (qat.d a0_0 l0_1 a1_0 l1_1).bind fun t1177 => (if t1177 = 0 then ((qa1.d a0_0 l0_1 a1_0 l1_1).bind fun bt1178 => (some (bt1178.1, bt1178.2, 0))) else (some (0, ([] : List Int), t1177))) := by
  refine IsLim.unique (qa4.lim _ _ _ _) ?_
  unfold qa4.f
  repeat' (first | exact IsLim.const _ | refine IsLim.ite ?_ ?_ | refine IsLim.bind ?_ (fun _ => ?_) | exact qat.lim .. | exact qa1.lim ..)
noncomputable def qab.j0d (x7 : Int) (x11 : Int) (x53 : Bool) (x1183000 : Int) (x1183001 : List Int) (x1184000 : Int) (x1184001 : List Int) (x1200000 : Int) (x1200001 : List Int) (x1205000 : Int) (x1205001 : List Int) (x1210000 : Int) (x1210001 : List Int) (x1216000 : Int) (x1216001 : List Int) : Option (Bool) := lim (fun k => qab.j0 k x7 x11 x53 x1183000 x1183001 x1184000 x1184001 x1200000 x1200001 x1205000 x1205001 x1210000 x1210001 x1216000 x1216001)
theorem qab.j0lim (x7 : Int) (x11 : Int) (x53 : Bool) (x1183000 : Int) (x1183001 : List Int) (x1184000 : Int) (x1184001 : List Int) (x1200000 : Int) (x1200001 : List Int) (x1205000 : Int) (x1205001 : List Int) (x1210000 : Int) (x1210001 : List Int) (x1216000 : Int) (x1216001 : List Int) : IsLim (fun k => qab.j0 k x7 x11 x53 x1183000 x1183001 x1184000 x1184001 x1200000 x1200001 x1205000 x1205001 x1210000 x1210001 x1216000 x1216001) (qab.j0d x7 x11 x53 x1183000 x1183001 x1184000 x1184001 x1200000 x1200001 x1205000 x1205001 x1210000 x1210001 x1216000 x1216001) := lim_spec (fun k => (qab.mono_l k).1 x7 x11 x53 x1183000 x1183001 x1184000 x1184001 x1200000 x1200001 x1205000 x1205001 x1210000 x1210001 x1216000 x1216001)
noncomputable def qab.j1d (x7 : Int) (x82 : Bool) (x1183000 : Int) (x1183001 : List Int) (x1184000 : Int) (x1184001 : List Int) (x1200000 : Int) (x1200001 : List Int) (x1216000 : Int) (x1216001 : List Int) : Option (Bool) := lim (fun k => qab.j1 k x7 x82 x1183000 x1183001 x1184000 x1184001 x1200000 x1200001 x1216000 x1216001)
theorem qab.j1lim (x7 : Int) (x82 : Bool) (x1183000 : Int) (x1183001 : List Int) (x1184000 : Int) (x1184001 : List Int) (x1200000 : Int) (x1200001 : List Int) (x1216000 : Int) (x1216001 : List Int) : IsLim (fun k => qab.j1 k x7 x82 x1183000 x1183001 x1184000 x1184001 x1200000 x1200001 x1216000 x1216001) (qab.j1d x7 x82 x1183000 x1183001 x1184000 x1184001 x1200000 x1200001 x1216000 x1216001) := lim_spec (fun k => (qab.mono_l k).2.1 x7 x82 x1183000 x1183001 x1184000 x1184001 x1200000 x1200001 x1216000 x1216001)
noncomputable def qab.j2d (x13 : Int) (x110 : Bool) (x1216000 : Int) (x1216001 : List Int) : Option (Bool) := lim (fun k => qab.j2 k x13 x110 x1216000 x1216001)
theorem qab.j2lim (x13 : Int) (x110 : Bool) (x1216000 : Int) (x1216001 : List Int) : IsLim (fun k => qab.j2 k x13 x110 x1216000 x1216001) (qab.j2d x13 x110 x1216000 x1216001) := lim_spec (fun k => (qab.mono_l k).2.2 x13 x110 x1216000 x1216001)
theorem qab.j0d_eq (x7 : Int) (x11 : Int) (x53 : Bool) (x1183000 : Int) (x1183001 : List Int) (x1184000 : Int) (x1184001 : List Int) (x1200000 : Int) (x1200001 : List Int) (x1205000 : Int) (x1205001 : List Int) (x1210000 : Int) (x1210001 : List Int) (x1216000 : Int) (x1216001 : List Int) : qab.j0d x7 x11 x53 x1183000 x1183001 x1184000 x1184001 x1200000 x1200001 x1205000 x1205001 x1210000 x1210001 x1216000 x1216001 = if x53 = true then (some false) else ((qaj.d x1183000 x1183001).bind fun bt1217 => ((qak.d x1205000 x1205001 bt1217.1 bt1217.2).bind fun t1221 => (if t1221 = true then ((qaj.d x1184000 x1184001).bind fun bt1222 => ((qak.d x1210000 x1210001 bt1222.1 bt1222.2).bind fun t1226 => (if t1226 = true then ((qaq.d x1205000 x1205001 1).bind fun bt1227 => ((qaq.d x1210000 x1210001 bt1227.1).bind fun bt1229 => (if bt1229.1 < 0 then (qab.j1d x7 true x1183000 x1183001 x1184000 x1184001 x1200000 x1200001 x1216000 x1216001) else ((qak.d x1216000 x1216001 x1200000 x1200001).bind fun t1231 => (if t1231 = true then (qab.j1d x7 (x11 != x7) x1183000 x1183001 x1184000 x1184001 x1200000 x1200001 x1216000 x1216001) else (qab.j1d x7 true x1183000 x1183001 x1184000 x1184001 x1200000 x1200001 x1216000 x1216001)))))) else (some false)))) else (some false)))) := by
  refine IsLim.unique (qab.j0lim _ _ _ _ _ _ _ _ _ _ _ _ _ _ _) ?_
  refine IsLim.shift (by rfl) ?_
  simp only [qab.j0]
  repeat' (first | exact IsLim.const _ | refine IsLim.ite ?_ ?_ | refine IsLim.bind ?_ (fun _ => ?_) | exact qaj.lim .. | exact qak.lim .. | exact qaq.lim .. | exact qab.j1lim ..)
theorem qab.j1d_eq (x7 : Int) (x82 : Bool) (x1183000 : Int) (x1183001 : List Int) (x1184000 : Int) (x1184001 : List Int) (x1200000 : Int) (x1200001 : List Int) (x1216000 : Int) (x1216001 : List Int) : qab.j1d x7 x82 x1183000 x1183001 x1184000 x1184001 x1200000 x1200001 x1216000 x1216001 = if x82 = true then (some false) else ((qaq.d x1216000 x1216001 1).bind fun bt1232 => ((qax.d x1216000 bt1232.2 1).bind fun t1234 => (if t1234 < 0 then (some false) else (if t1234 = bt1232.1 then ((qaj.d x1183000 x1183001).bind fun bt1235 => ((qaj.d x1184000 x1184001).bind fun bt1239 => ((qaz.d bt1235.1 bt1235.2 bt1239.1 bt1239.2).bind fun bt1243 => ((qak.d bt1243.1 bt1243.2.1 x1200000 x1200001).bind fun t1249 => (if t1249 = true then (qab.j2d bt1232.1 (bt1243.2.2 != x7) x1216000 bt1232.2) else (qab.j2d bt1232.1 true x1216000 bt1232.2)))))) else (some false))))) := by
  refine IsLim.unique (qab.j1lim _ _ _ _ _ _ _ _ _ _) ?_
  refine IsLim.shift (by rfl) ?_
  simp only [qab.j1]
  repeat' (first | exact IsLim.const _ | refine IsLim.ite ?_ ?_ | refine IsLim.bind ?_ (fun _ => ?_) | exact qaq.lim .. | exact qax.lim .. | exact qaj.lim .. | exact qaz.lim .. | exact qak.lim .. | exact qab.j2lim ..)
theorem qab.j2d_eq (x13 : Int) (x110 : Bool) (x1216000 : Int) (x1216001 : List Int) : qab.j2d x13 x110 x1216000 x1216001 = if x110 = true then (some false) else ((qax.d x1216000 x1216001 1).bind fun t1250 => (if t1250 < 0 then (some false) else (if t1250 = x13 then (some true) else (some false)))) := by
  refine IsLim.unique (qab.j2lim _ _ _ _) ?_
  refine IsLim.shift (by rfl) ?_
  simp only [qab.j2]
  repeat' (first | exact IsLim.const _ | refine IsLim.ite ?_ ?_ | refine IsLim.bind ?_ (fun _ => ?_) | exact qax.lim ..)
noncomputable def qab.d (a0_0 : Int) (l0_1 : List Int) (a1_0 : Int) (l1_1 : List Int) : Option (Bool) := lim (fun k => qab.f k a0_0 l0_1 a1_0 l1_1)
theorem qab.lim (a0_0 : Int) (l0_1 : List Int) (a1_0 : Int) (l1_1 : List Int) : IsLim (fun k => qab.f k a0_0 l0_1 a1_0 l1_1) (qab.d a0_0 l0_1 a1_0 l1_1) := lim_spec (fun k => qab.mono a0_0 l0_1 a1_0 l1_1 k)
theorem qab.d_eq (a0_0 : Int) (l0_1 : List Int) (a1_0 : Int) (l1_1 : List Int) : qab.d a0_0 l0_1 a1_0 l1_1 = (qa9.f a0_0 l0_1 1048576).bind fun t1184 => (if t1184 < 0 then (some true) else ((qa9.f a1_0 l1_1 t1184).bind fun t1185 => (if t1185 < 0 then (some true) else ((qaj.d a0_0 l0_1).bind fun bt1186 => ((qaj.d a1_0 l1_1).bind fun bt1190 => ((qa4.d bt1186.1 bt1186.2 bt1190.1 bt1190.2).bind fun bt1194 => ((qaj.d a0_0 l0_1).bind fun bt1200 => ((qaj.d a1_0 l1_1).bind fun bt1205 => ((qaz.d bt1200.1 bt1200.2 bt1205.1 bt1205.2).bind fun bt1210 => ((qak.d bt1210.1 bt1210.2.1 bt1194.1 bt1194.2.1).bind fun t1216 => (if t1216 = true then (qab.j0d bt1194.2.2 bt1210.2.2 (bt1210.2.2 != bt1194.2.2) a0_0 l0_1 a1_0 l1_1 bt1194.1 bt1194.2.1 bt1200.1 bt1200.2 bt1205.1 bt1205.2 bt1210.1 bt1210.2.1) else (qab.j0d bt1194.2.2 bt1210.2.2 true a0_0 l0_1 a1_0 l1_1 bt1194.1 bt1194.2.1 bt1200.1 bt1200.2 bt1205.1 bt1205.2 bt1210.1 bt1210.2.1)))))))))))) := by
  refine IsLim.unique (qab.lim _ _ _ _) ?_
  unfold qab.f
  repeat' (first | exact IsLim.const _ | refine IsLim.ite ?_ ?_ | refine IsLim.bind ?_ (fun _ => ?_) | exact qaj.lim .. | exact qa4.lim .. | exact qaz.lim .. | exact qak.lim .. | exact qab.j0lim ..)
theorem wr {x : Int} (h0 : -9223372036854775808 ≤ x) (h1 : x < 9223372036854775808) : wrap64 x = x := by
  unfold wrap64; omega
theorem wrS {i n : Nat} (h : i < n) (hn : n ≤ 17592186044416) : wrap64 ((i : Int) + 1) = ((i + 1 : Nat) : Int) := by rw [wr (by omega) (by omega)]; omega
theorem u64_id {x : Int} (h0 : 0 ≤ x) (h1 : x < 9223372036854775808) : IntKind.u64.wrap x = x := by rw [IntKind.wrap_u64]; omega
theorem down {Q : Nat → Prop} {n : Nat} (h0 : Q n) (hs : ∀ i, i < n → Q (i + 1) → Q i) : ∀ i, i ≤ n → Q i := by
  intro i hi
  obtain ⟨d, hd⟩ : ∃ d, d = n - i := ⟨_, rfl⟩
  induction d generalizing i with
  | zero => have : i = n := by omega
            exact this ▸ h0
  | succ d ih => exact hs i (by omega) (ih (i + 1) (by omega) (by omega))
theorem rd_get {l : List Int} {i : Nat} (h : i < l.length) : rd l (i : Int) = l[i] := rd_at l i h
theorem bind_some' {α β : Type} (a : α) (f : α → Option β) : (some a).bind f = f a := rfl
theorem bind_ok {α β : Type} {x : Option α} {f : α → Option β} {a : α} {b : β} (h : x = some a) (h' : f a = some b) : x.bind f = some b := by rw [h]; exact h'
theorem ite_t {α : Type} {c : Prop} [Decidable c] {a b : Option α} {v : α} (h : c) (h' : a = some v) : (if c then a else b) = some v := by rw [if_pos h]; exact h'
theorem ite_f {α : Type} {c : Prop} [Decidable c] {a b : Option α} {v : α} (h : ¬ c) (h' : b = some v) : (if c then a else b) = some v := by rw [if_neg h]; exact h'
theorem some_bind_ok {α β : Type} {f : α → Option β} {a : α} {b : β} (h' : f a = some b) : (some a).bind f = some b := h'
theorem bind_assoc_ok {α β γ : Type} {x : Option α} {f : α → Option β} {g : β → Option γ} {b : γ} (h : (x.bind fun y => (f y).bind g) = some b) : (x.bind f).bind g = some b := by rw [Option.bind_assoc]; exact h
theorem ite_bind_t {α β : Type} {c : Prop} [Decidable c] {x y : Option α} {g : α → Option β} {b : β} (h : c) (h' : x.bind g = some b) : (if c then x else y).bind g = some b := by rw [if_pos h]; exact h'
theorem ite_bind_f {α β : Type} {c : Prop} [Decidable c] {x y : Option α} {g : α → Option β} {b : β} (h : ¬ c) (h' : y.bind g = some b) : (if c then x else y).bind g = some b := by rw [if_neg h]; exact h'
/-- a, a + 1, .. -/
def iota (a : Int) : Nat → List Int
  | 0 => []
  | n + 1 => a :: iota (a + 1) n
theorem iota_length (a : Int) (n : Nat) : (iota a n).length = n := by
  induction n generalizing a with
  | zero => rfl
  | succ n ih => simp [iota, ih]
theorem iota_get (a : Int) (n : Nat) : ∀ (i : Nat) (h : i < (iota a n).length), (iota a n)[i] = a + i := by
  induction n generalizing a with
  | zero => intro i h; simp [iota] at h
  | succ n ih =>
    intro i h
    cases i with
    | zero => simp [iota]
    | succ i => simp only [iota, List.getElem_cons_succ]; rw [ih]; omega
theorem iota_snoc (a : Int) (n : Nat) : iota a (n + 1) = iota a n ++ [a + n] := by
  induction n generalizing a with
  | zero => simp [iota]
  | succ n ih => rw [iota, ih, iota]; simp; omega
theorem toInt64S_v {l : List Int} (h : l.length ≤ 17592186044416) : qas.d l = some l := by
  have key : ∀ i, i ≤ l.length → qas.l0d l (l.take i ++ List.replicate (l.length - i) 0) (i : Int) = some l := by
    apply down
    · rw [qas.l0d_eq, if_neg (by omega)]; simp
    · intro i hi ih
      rw [qas.l0d_eq, if_pos (by omega), if_pos (by omega), if_pos (by simp; omega), wrS hi h, rd_get hi]
      rw [← ih]
      congr 1
      rw [List.take_succ_eq_append_getElem hi, Int.toNat_natCast]
      apply List.ext_getElem
      · simp; omega
      · intro j h1 h2
        simp only [List.getElem_set, List.getElem_append, List.length_take, List.length_append, List.getElem_take, List.getElem_replicate, List.length_cons, List.length_nil]
        simp only [List.length_set, List.length_append, List.length_take, List.length_replicate] at h1
        by_cases c : i = j
        · subst c; rw [if_pos rfl, dif_pos (by omega), dif_neg (by omega)]; simp
        · rw [if_neg c]
          by_cases c2 : j < i
          · rw [dif_pos (by omega), dif_pos (by omega), dif_pos (by omega)]
          · rw [dif_neg (by omega), dif_neg (by omega)]
  rw [qas.d_eq, if_pos (by omega), if_pos (by omega)]
  have := key 0 (by omega)
  simpa using this
theorem eqInt64S_v {a b : List Int} (h : a.length ≤ 17592186044416) : qar.d a b = some (decide (a = b)) := by
  rw [qar.d_eq]
  by_cases hl : a.length = b.length
  · rw [if_pos (by omega)]
    have key : ∀ i, i ≤ a.length → qar.l0d a b (i : Int) = some (decide (a.drop i = b.drop i)) := by
      apply down
      · rw [qar.l0d_eq, if_neg (by omega)]; simp [hl]
      · intro i hi ih
        have hb : i < b.length := by omega
        rw [qar.l0d_eq, if_pos (by omega), if_pos (by omega), if_pos (by omega), wrS hi h, rd_get hi, rd_get hb, ih]
        rw [List.drop_eq_getElem_cons hi, List.drop_eq_getElem_cons hb]
        by_cases c : a[i] = b[i]
        · rw [if_pos c]; simp only [List.cons.injEq, c, true_and]
        · rw [if_neg c]; simp only [List.cons.injEq, c, false_and, decide_false]
    have := key 0 (by omega)
    simpa using this
  · rw [if_neg (by omega)]
    have : a ≠ b := fun e => hl (by rw [e])
    simp [this]
theorem eqInt64S_self {a : List Int} (h : a.length ≤ 17592186044416) : qar.d a a = some true := by rw [eqInt64S_v h]; simp
/-- the first place where `q` holds, by a walk upward -/
theorem index_gen {F : Int → Option Int} {n : Nat} {q : Nat → Bool} (hend : F (n : Int) = some (-1))
    (heq : ∀ i : Nat, i < n → F (i : Int) = if q i = true then some (i : Int) else F ((i + 1 : Nat) : Int)) :
    ∃ v, F 0 = some v ∧ (decide (v ≥ 0) = !decide (∀ i, i < n → q i = false)) ∧ (0 ≤ v → v.toNat < n ∧ q v.toNat = true ∧ ∀ j, j < v.toNat → q j = false) := by
  have key : ∀ i, i ≤ n → ∃ v, F (i : Int) = some v ∧ (v ≥ 0 ↔ ¬ ∀ j, i ≤ j → j < n → q j = false) ∧ (0 ≤ v → i ≤ v.toNat ∧ v.toNat < n ∧ q v.toNat = true ∧ ∀ j, i ≤ j → j < v.toNat → q j = false) := by
    apply down
    · exact ⟨-1, hend, ⟨fun h => absurd h (by decide), fun h => absurd (fun j _ _ => by omega) h⟩, fun h => absurd h (by decide)⟩
    · intro i hi ⟨v, e, c, d⟩
      rw [heq i hi]
      by_cases hq : q i = true
      · rw [if_pos hq]
        exact ⟨i, rfl, ⟨fun _ h => (by rw [h i (by omega) hi] at hq; cases hq), fun _ => by omega⟩, fun _ => ⟨by simp, by simpa using hi, by simpa using hq, fun j h1 h2 => by simp at h2; omega⟩⟩
      · rw [if_neg hq]
        have hq' : q i = false := Bool.eq_false_iff.mpr hq
        refine ⟨v, e, c.trans ⟨fun h h' => h fun j a b => h' j (by omega) b, fun h h' => h fun j a b => ?_⟩, fun h => ?_⟩
        · rcases Nat.lt_or_ge i j with z | z
          · exact h' j z b
          · have : j = i := by omega
            rw [this, hq']
        · obtain ⟨a1, a2, a3, a4⟩ := d h
          refine ⟨by omega, a2, a3, fun j h1 h2 => ?_⟩
          rcases Nat.lt_or_ge i j with z | z
          · exact a4 j z h2
          · have : j = i := by omega
            rw [this, hq']
  obtain ⟨v, e, c, d⟩ := key 0 (by omega)
  refine ⟨v, e, ?_, fun h => ⟨(d h).2.1, (d h).2.2.1, fun j hj => (d h).2.2.2 j (by omega) hj⟩⟩
  rw [← decide_not]
  apply decide_eq_decide.mpr
  exact c.trans ⟨fun h h' => h fun j _ b => h' j b, fun h h' => h fun j b => h' j (by omega) b⟩
theorem all_gen {F : Int → Option Bool} {n : Nat} {q : Nat → Bool} (hend : F (n : Int) = some true)
    (heq : ∀ i : Nat, i < n → F (i : Int) = if q i = true then F ((i + 1 : Nat) : Int) else some false) :
    F 0 = some (decide (∀ i, i < n → q i = true)) := by
  have key : ∀ i, i ≤ n → ∃ b, F (i : Int) = some b ∧ (b = true ↔ ∀ j, i ≤ j → j < n → q j = true) := by
    apply down
    · exact ⟨true, hend, ⟨fun _ j a b => by omega, fun _ => rfl⟩⟩
    · intro i hi ⟨b, e, c⟩
      rw [heq i hi, e]
      by_cases hq : q i = true
      · rw [if_pos hq]
        refine ⟨b, rfl, c.trans ⟨fun h j a b => ?_, fun h j a b => h j (by omega) b⟩⟩
        rcases Nat.lt_or_ge i j with z | z
        · exact h j z b
        · have : j = i := by omega
          rw [this, hq]
      · rw [if_neg hq]
        exact ⟨false, rfl, ⟨(fun h => absurd h (by decide)), fun h => absurd (h i (by omega) hi) hq⟩⟩
  obtain ⟨b, e, c⟩ := key 0 (by omega)
  have e' : F 0 = some b := e
  rw [e']
  congr 1
  rw [Bool.eq_iff_iff, decide_eq_true_iff]
  exact c.trans ⟨fun h j b => h j (by omega) b, fun h j _ b => h j b⟩
theorem all_get {l : List Int} {q : Int → Bool} : decide (∀ i, i < l.length → q (rd l (i : Int)) = true) = l.all q := by
  rw [Bool.eq_iff_iff, decide_eq_true_iff, List.all_eq_true]
  constructor
  · intro h x hx
    obtain ⟨i, hi, e⟩ := List.getElem_of_mem hx
    have := h i hi
    rwa [rd_get hi, e] at this
  · intro h i hi
    rw [rd_get hi]; exact h _ (List.getElem_mem hi)
theorem szInt64S_in {l : List Int} {n : Int} (h : (l.length : Int) ≤ n) (hn : n ≤ 4611686018427387904) : qbe.f l n = some (n - l.length) := by
  unfold qbe.f
  rw [wr (by omega) (by omega), if_neg (by omega)]
theorem szInt64S_out {l : List Int} {n : Int} (h : n < (l.length : Int)) (h0 : 0 ≤ n) (hl : l.length ≤ maxLen) : qbe.f l n = some (-1) := by
  unfold qbe.f
  unfold maxLen at hl
  rw [wr (by omega) (by omega), if_pos (by omega)]
theorem markInt64S_v {l : List Int} {a : Int} (h : l.length ≤ 17592186044416) (h0 : 0 ≤ a) (h1 : a ≤ 4611686018427387904) :
    qap.d l a = some (a + l.length, iota a l.length) := by
  have key : ∀ i, i ≤ l.length → qap.l0d (iota a i ++ l.drop i) (a + i) (i : Int) = some (a + l.length, iota a l.length) := by
    apply down
    · rw [qap.l0d_eq, if_neg (by simp [iota_length])]; simp
    · intro i hi ih
      rw [qap.l0d_eq, if_pos (by simp [iota_length]; omega), if_pos (by omega), wrS hi h, wr (x := a + i + 1) (by omega) (by omega), ← ih]
      congr 1
      · rw [iota_snoc, Int.toNat_natCast, List.set_append]
        simp only [iota_length, Nat.lt_irrefl, if_false, Nat.sub_self]
        rw [List.drop_eq_getElem_cons hi]
        simp only [List.set_cons_zero, List.append_assoc, List.singleton_append]
      · omega
  rw [qap.d_eq]
  have := key 0 (by omega)
  simpa [iota] using this
theorem heldInt64S_v {n : Nat} {a : Int} (h : n ≤ 17592186044416) (h0 : 0 ≤ a) (h1 : a ≤ 4611686018427387904) :
    qao.d (iota a n) a = some (a + n) := by
  have key : ∀ i, i ≤ n → qao.l0d (iota a n) (a + i) (i : Int) = some (a + n) := by
    apply down
    · rw [qao.l0d_eq, if_neg (by simp [iota_length])]
    · intro i hi ih
      have hi' : i < (iota a n).length := by rw [iota_length]; exact hi
      rw [qao.l0d_eq, if_pos (by omega), if_pos (by omega), rd_get hi', iota_get, if_pos rfl, wrS hi h, wr (x := a + i + 1) (by omega) (by omega), ← ih]
      congr 1; omega
  rw [qao.d_eq]
  have := key 0 (by omega)
  simpa using this
theorem wrap_nat {n : Nat} (h : n < 9223372036854775808) : IntKind.i64.wrap (n : Int) = (n : Int) := by rw [IntKind.wrap_i64]; omega
theorem bits_nat {a : Nat} (ha : a < 9223372036854775808) : (BitVec.ofInt IntKind.i64.bits (a : Int)).toNat = a := by
  show (BitVec.ofInt 64 (a : Int)).toNat = a
  rw [BitVec.ofInt_natCast, BitVec.toNat_ofNat]
  exact Nat.mod_eq_of_lt (by omega)
theorem bxor {a b : Nat} (ha : a < 9223372036854775808) (hb : b < 9223372036854775808) : Go.bits .xor .i64 (a : Int) (b : Int) = ((a ^^^ b : Nat) : Int) := by
  show IntKind.i64.wrap ((BitVec.ofInt IntKind.i64.bits (a : Int) ^^^ BitVec.ofInt IntKind.i64.bits (b : Int)).toNat : Int) = _
  rw [BitVec.toNat_xor, bits_nat ha, bits_nat hb]
  exact wrap_nat (Nat.xor_lt_two_pow (n := 63) (by omega) (by omega))
theorem band {a b : Nat} (ha : a < 9223372036854775808) (hb : b < 9223372036854775808) : Go.bits .and .i64 (a : Int) (b : Int) = ((a &&& b : Nat) : Int) := by
  show IntKind.i64.wrap ((BitVec.ofInt IntKind.i64.bits (a : Int) &&& BitVec.ofInt IntKind.i64.bits (b : Int)).toNat : Int) = _
  rw [BitVec.toNat_and, bits_nat ha, bits_nat hb]
  exact wrap_nat (Nat.and_lt_two_pow (n := 63) a (by omega))
theorem bor {a b : Nat} (ha : a < 9223372036854775808) (hb : b < 9223372036854775808) : Go.bits .or .i64 (a : Int) (b : Int) = ((a ||| b : Nat) : Int) := by
  show IntKind.i64.wrap ((BitVec.ofInt IntKind.i64.bits (a : Int) ||| BitVec.ofInt IntKind.i64.bits (b : Int)).toNat : Int) = _
  rw [BitVec.toNat_or, bits_nat ha, bits_nat hb]
  exact wrap_nat (Nat.or_lt_two_pow (n := 63) (by omega) (by omega))
theorem shr_nat {a c : Nat} (hc : c ≤ 64) : shr .i64 (a : Int) (c : Int) = ((a >>> c : Nat) : Int) := by
  show (a : Int) / 2 ^ min (c : Int).toNat 64 = _
  rw [Int.toNat_natCast, Nat.min_eq_left hc, Nat.shiftRight_eq_div_pow]
  simp
theorem shl_nat {a c : Nat} (hc : c ≤ 64) (h : a * 2 ^ c < 9223372036854775808) : shl .i64 (a : Int) (c : Int) = ((a * 2 ^ c : Nat) : Int) := by
  show IntKind.i64.wrap ((a : Int) * 2 ^ min (c : Int).toNat 64) = _
  rw [Int.toNat_natCast, Nat.min_eq_left hc, ← wrap_nat h]
  simp
theorem bit_test {a c : Nat} (ha : a < 9223372036854775808) (hc : c ≤ 64) : Go.bits .and .i64 (shr .i64 (a : Int) (c : Int)) 1 = if a.testBit c = true then 1 else 0 := by
  rw [shr_nat hc]
  have h1 : a >>> c < 9223372036854775808 := by
    rw [Nat.shiftRight_eq_div_pow]
    exact Nat.lt_of_le_of_lt (Nat.div_le_self _ _) ha
  have := band (a := a >>> c) (b := 1) h1 (by omega)
  rw [show ((1 : Nat) : Int) = 1 from rfl] at this
  rw [this, Nat.testBit, Nat.and_comm 1]
  rw [Nat.and_one_is_mod]
  rcases Nat.mod_two_eq_zero_or_one (a >>> c) with e | e <;> rw [e] <;> simp
theorem lt_mono {x a b : Nat} (h : x < 2 ^ a) (hab : a ≤ b) : x < 2 ^ b := Nat.lt_of_lt_of_le h (Nat.pow_le_pow_right (by omega) hab)
theorem small62 {x n : Nat} (hn : n ≤ 63) (h : x < 2 ^ n) : x < 9223372036854775808 := Nat.lt_of_lt_of_le h (Nat.le_trans (Nat.pow_le_pow_right (by omega) hn) (by decide))
/-- rows as the program holds them -/
def up (l : List Nat) : List Int := l.map fun (x : Nat) => (x : Int)
theorem up_length (l : List Nat) : (up l).length = l.length := by simp [up]
theorem up_get {l : List Nat} {i : Nat} (h : i < l.length) : rd (up l) (i : Int) = (l[i] : Int) := by
  rw [rd_get (by rw [up_length]; exact h)]; simp [up]
theorem up_set {l : List Nat} {i x : Nat} : (up l).set i (x : Int) = up (l.set i x) := by simp [up, List.map_set]
theorem up_append (l l' : List Nat) : up (l ++ l') = up l ++ up l' := by simp [up]
theorem up_drop (l : List Nat) (i : Nat) : (up l).drop i = up (l.drop i) := by simp [up, List.map_drop]
theorem up_take (l : List Nat) (i : Nat) : (up l).take i = up (l.take i) := by simp [up, List.map_take]
theorem up_of {l : List Int} (h : ∀ x ∈ l, 0 ≤ x) : up (l.map Int.toNat) = l := by
  unfold up
  rw [List.map_map]
  conv => rhs; rw [← List.map_id l]
  apply List.map_congr_left
  intro x hx
  show ((x.toNat : Nat) : Int) = x
  have := h x hx
  omega
theorem up_inj {a b : List Nat} (h : up a = up b) : a = b := by
  unfold up at h
  exact (List.map_inj_right (f := fun (x : Nat) => (x : Int)) (fun x y e => by have e : (x : Int) = (y : Int) := e; omega)).mp h
/-- a walk upward that writes every place of a list -/
theorem map_gen {α R : Type} {F : List α → Int → R} {n : Nat} {g : Nat → α → α} {r : R} (Q : Nat → α → Prop) (l : List α) (hn : l.length = n)
    (hq : ∀ i, (h : i < l.length) → Q i l[i]) (hg : ∀ i x, Q i x → Q i (g i x))
    (heq : ∀ i : Nat, ∀ a : List α, (hi : i < a.length) → a.length = n → (∀ j, (h : j < a.length) → Q j a[j]) → (∀ j, i ≤ j → (h : j < a.length) → (h' : j < l.length) → a[j] = l[j]) →
      (∀ j, j < i → (h : j < a.length) → (h' : j < l.length) → a[j] = g j l[j]) → F a (i : Int) = F (a.set i (g i (a[i]'hi))) ((i + 1 : Nat) : Int))
    (hend : F (l.mapIdx g) (n : Int) = r) : F l 0 = r := by
  have key : ∀ i, i ≤ n → F (l.mapIdx fun j x => if j < i then g j x else x) (i : Int) = r := by
    apply down
    · have : (l.mapIdx fun j x => if j < n then g j x else x) = l.mapIdx g := by
        apply List.ext_getElem
        · simp
        · intro j h1 h2
          simp only [List.getElem_mapIdx]
          rw [if_pos (by simp at h1; omega)]
      rw [this]; exact hend
    · intro i hi e
      have hil : i < l.length := by omega
      rw [heq i _ (by simp; omega) (by simp; omega) ?_ ?_ ?_, ← e]
      · congr 1
        apply List.ext_getElem
        · simp
        · intro j h1 h2
          simp only [List.getElem_set, List.getElem_mapIdx]
          by_cases c : i = j
          · subst c; simp
          · rw [if_neg c]
            by_cases c2 : j < i
            · simp [c2, show j < i + 1 by omega]
            · simp [c2, show ¬ j < i + 1 by omega]
      · intro j h
        simp only [List.length_mapIdx] at h
        simp only [List.getElem_mapIdx]
        split
        · exact hg j _ (hq j h)
        · exact hq j h
      · intro j hij h h'
        simp only [List.getElem_mapIdx]
        rw [if_neg (by omega)]
      · intro j hij h h'
        simp only [List.getElem_mapIdx]
        rw [if_pos hij]
  have := key 0 (by omega)
  have e : (l.mapIdx fun j x => if j < 0 then g j x else x) = l := by
    apply List.ext_getElem
    · simp
    · intro j h1 h2; simp
  rw [e] at this
  exact this
theorem mapIdx_const {α : Type} (g : α → α) (l : List α) : (l.mapIdx fun _ x => g x) = l.map g := by
  apply List.ext_getElem
  · simp
  · intro j h1 h2; simp
end Go.Proofs.Ytbaicdgkpnbipaa.P
end
section
namespace Go.Proofs.Ytbaicdgkpnbipaa.P
set_option linter.unusedVariables false
/-- a sum of some of the rows -/
inductive Sp (R : List Nat) : Nat → Prop
  | zero : Sp R 0
  | add {r v : Nat} : r ∈ R → Sp R v → Sp R (v ^^^ r)
theorem Sp.mem {R : List Nat} {r : Nat} (h : r ∈ R) : Sp R r := by
  have := Sp.add h Sp.zero
  rwa [Nat.zero_xor] at this
theorem Sp.xor {R : List Nat} {u v : Nat} (hu : Sp R u) (hv : Sp R v) : Sp R (u ^^^ v) := by
  induction hv with
  | zero => rwa [Nat.xor_zero]
  | add h _ ih => rw [← Nat.xor_assoc]; exact Sp.add h ih
theorem Sp.sub {R R' : List Nat} (h : ∀ r ∈ R, Sp R' r) {v : Nat} (hv : Sp R v) : Sp R' v := by
  induction hv with
  | zero => exact Sp.zero
  | add hr _ ih => exact ih.xor (h _ hr)
theorem Sp.mono {R R' : List Nat} (h : ∀ r ∈ R, r ∈ R') {v : Nat} (hv : Sp R v) : Sp R' v := hv.sub fun r hr => Sp.mem (h r hr)
theorem Sp.nil {v : Nat} (h : Sp [] v) : v = 0 := by
  cases h with
  | zero => rfl
  | add h _ => cases h
theorem Sp.cons {r : Nat} {R : List Nat} {v : Nat} (h : Sp (r :: R) v) : Sp R v ∨ Sp R (v ^^^ r) := by
  induction h with
  | zero => exact .inl .zero
  | @add s v hs _ ih =>
    rcases List.mem_cons.mp hs with rfl | hs
    · rcases ih with ih | ih
      · right; rw [Nat.xor_assoc, Nat.xor_self, Nat.xor_zero]; exact ih
      · left; exact ih
    · rcases ih with ih | ih
      · left; exact ih.add hs
      · right; rw [Nat.xor_assoc, Nat.xor_comm s r, ← Nat.xor_assoc]; exact ih.add hs
theorem Sp.bit {R : List Nat} {b : Nat} (h : ∀ r ∈ R, r.testBit b = false) {v : Nat} (hv : Sp R v) : v.testBit b = false := by
  induction hv with
  | zero => exact Nat.zero_testBit b
  | add hr _ ih => rw [Nat.testBit_xor, ih, h _ hr]; rfl
/-- reduced rows R with their leading places C, growing -/
def RED : List Nat → List Nat → Prop
  | [], [] => True
  | r :: R, c :: C => r.testBit c = true ∧ (∀ b, b < c → r.testBit b = false) ∧ (∀ d ∈ C, c < d ∧ r.testBit d = false) ∧ RED R C
  | _, _ => False
theorem RED.low {R C : List Nat} (h : RED R C) {b : Nat} (hb : ∀ d ∈ C, b < d) : ∀ r ∈ R, r.testBit b = false := by
  induction R generalizing C with
  | nil => intro r hr; cases hr
  | cons r R ih =>
    cases C with
    | nil => exact h.elim
    | cons c C =>
      obtain ⟨h1, h2, h3, h4⟩ := h
      intro s hs
      rcases List.mem_cons.mp hs with rfl | hs
      · exact h2 b (hb c (by simp))
      · exact ih h4 (fun d hd => hb d (by simp [hd])) s hs
theorem RED.zero {R C : List Nat} (h : RED R C) {v : Nat} (hv : Sp R v) (h0 : ∀ c ∈ C, v.testBit c = false) : v = 0 := by
  induction R generalizing C v with
  | nil => exact hv.nil
  | cons r R ih =>
    cases C with
    | nil => exact h.elim
    | cons c C =>
      obtain ⟨h1, h2, h3, h4⟩ := h
      have low : ∀ s ∈ R, s.testBit c = false := h4.low fun d hd => (h3 d hd).1
      rcases hv.cons with hv | hv
      · exact ih h4 hv fun d hd => h0 d (by simp [hd])
      · have := hv.bit low
        rw [Nat.testBit_xor, h1, h0 c (by simp)] at this
        cases this
theorem RED.lead {R C : List Nat} (h : RED R C) {v : Nat} (hv : Sp R v) (h0 : v ≠ 0) : ∃ c ∈ C, v.testBit c = true ∧ ∀ b, b < c → v.testBit b = false := by
  induction R generalizing C v with
  | nil => exact absurd hv.nil h0
  | cons r R ih =>
    cases C with
    | nil => exact h.elim
    | cons c C =>
      obtain ⟨h1, h2, h3, h4⟩ := h
      rcases hv.cons with hv | hv
      · obtain ⟨d, hd, a, b⟩ := ih h4 hv h0
        exact ⟨d, by simp [hd], a, b⟩
      · refine ⟨c, by simp, ?_, fun b hb => ?_⟩
        · have := hv.bit (h4.low fun d hd => (h3 d hd).1)
          rw [Nat.testBit_xor, h1] at this
          revert this; cases v.testBit c <;> simp
        · have := hv.bit (h4.low (b := b) fun d hd => Nat.lt_trans hb (h3 d hd).1)
          rw [Nat.testBit_xor, h2 b hb] at this
          revert this; cases v.testBit b <;> simp
theorem RED.nonzero {r c : Nat} (h : r.testBit c = true) : r ≠ 0 := by rintro rfl; rw [Nat.zero_testBit] at h; cases h
theorem RED.head_le {r c : Nat} {R C R' C' : List Nat} {r' c' : Nat} (h : RED (r :: R) (c :: C)) (h' : RED (r' :: R') (c' :: C'))
    (hs : ∀ v, Sp (r' :: R') v → Sp (r :: R) v) : c ≤ c' := by
  obtain ⟨d, hd, a, b⟩ := h.lead (hs r' (Sp.mem (by simp))) (RED.nonzero h'.1)
  have : c ≤ d := by
    rcases List.mem_cons.mp hd with rfl | hd
    · exact Nat.le_refl _
    · exact Nat.le_of_lt (h.2.2.1 d hd).1
  rcases Nat.lt_or_ge c' d with z | z
  · have := b c' z; rw [h'.1] at this; cases this
  · omega
theorem RED.tail {r c : Nat} {R C : List Nat} (h : RED (r :: R) (c :: C)) {v : Nat} : Sp R v ↔ (Sp (r :: R) v ∧ v.testBit c = false) := by
  have low : ∀ s ∈ R, s.testBit c = false := h.2.2.2.low fun d hd => (h.2.2.1 d hd).1
  constructor
  · intro hv; exact ⟨hv.mono fun s hs => by simp [hs], hv.bit low⟩
  · rintro ⟨hv, h0⟩
    rcases hv.cons with hv | hv
    · exact hv
    · have := hv.bit low
      rw [Nat.testBit_xor, h.1, h0] at this; cases this
theorem RED.unique {R C R' C' : List Nat} (h : RED R C) (h' : RED R' C') (hs : ∀ v, Sp R v ↔ Sp R' v) : R = R' ∧ C = C' := by
  induction R generalizing C R' C' with
  | nil =>
    cases C with
    | cons c C => exact h.elim
    | nil =>
      cases R' with
      | nil => cases C' with
        | nil => exact ⟨rfl, rfl⟩
        | cons c' C' => exact h'.elim
      | cons r' R' => cases C' with
        | nil => exact h'.elim
        | cons c' C' => exact absurd ((hs r').mpr (Sp.mem (by simp))).nil (RED.nonzero h'.1)
  | cons r R ih =>
    cases C with
    | nil => exact h.elim
    | cons c C =>
      cases R' with
      | nil => cases C' with
        | nil => exact absurd ((hs r).mp (Sp.mem (by simp))).nil (RED.nonzero h.1)
        | cons c' C' => exact h'.elim
      | cons r' R' =>
        cases C' with
        | nil => exact h'.elim
        | cons c' C' =>
          have e : c = c' := Nat.le_antisymm (h.head_le h' fun v => (hs v).mpr) (h'.head_le h fun v => (hs v).mp)
          subst e
          obtain ⟨e1, e2⟩ := ih h.2.2.2 h'.2.2.2 fun v => by rw [h.tail, h'.tail, hs v]
          subst e1 e2
          refine ⟨?_, rfl⟩
          have hz : r ^^^ r' = 0 := by
            refine h.zero (Sp.xor (Sp.mem (by simp)) ((hs r').mpr (Sp.mem (by simp)))) fun d hd => ?_
            rw [Nat.testBit_xor]
            rcases List.mem_cons.mp hd with rfl | hd
            · rw [h.1, h'.1]; rfl
            · rw [(h.2.2.1 d hd).2, (h'.2.2.1 d hd).2]; rfl
          have : r = r' := by
            have := congrArg (· ^^^ r') hz
            simp only [Nat.xor_assoc, Nat.xor_self, Nat.xor_zero, Nat.zero_xor] at this
            exact this
          rw [this]
theorem RED.snoc {R C : List Nat} (h : RED R C) {r c : Nat} (h1 : r.testBit c = true) (h2 : ∀ b, b < c → r.testBit b = false) (hC : ∀ d ∈ C, d < c) (hR : ∀ s ∈ R, s.testBit c = false) : RED (R ++ [r]) (C ++ [c]) := by
  induction R generalizing C with
  | nil =>
    cases C with
    | cons c C => exact h.elim
    | nil => exact ⟨h1, h2, (fun d hd => by cases hd), trivial⟩
  | cons s R ih =>
    cases C with
    | nil => exact h.elim
    | cons d C =>
      refine ⟨h.1, h.2.1, fun e he => ?_, ih h.2.2.2 (fun e he => hC e (by simp [he])) (fun s hs => hR s (by simp [hs]))⟩
      rcases List.mem_append.mp he with he | he
      · exact h.2.2.1 e he
      · rw [List.mem_singleton] at he
        subst he
        exact ⟨hC d (by simp), hR s (by simp)⟩
theorem RED.len {R C : List Nat} (h : RED R C) : R.length = C.length := by
  induction R generalizing C with
  | nil => cases C with
    | nil => rfl
    | cons => exact h.elim
  | cons r R ih => cases C with
    | nil => exact h.elim
    | cons c C => simp [ih h.2.2.2]
/-- a row x becomes x + r where it has the place c -/
def clr (c r x : Nat) : Nat := if x.testBit c = true then x ^^^ r else x
theorem clr_bit {c r x : Nat} (h : r.testBit c = true) : (clr c r x).testBit c = false := by
  unfold clr
  split
  · rename_i hx; rw [Nat.testBit_xor, hx, h]; rfl
  · rename_i hx; exact Bool.eq_false_iff.mpr hx
theorem clr_low {c r x b : Nat} (h : r.testBit b = false) : (clr c r x).testBit b = x.testBit b := by
  unfold clr
  split
  · rw [Nat.testBit_xor, h, Bool.xor_false]
  · rfl
theorem clr_lt {c r x n : Nat} (hr : r < 2 ^ n) (hx : x < 2 ^ n) : clr c r x < 2 ^ n := by
  unfold clr
  split
  · exact Nat.xor_lt_two_pow hx hr
  · exact hx
theorem RED.clr {R C : List Nat} (h : RED R C) {r c : Nat} (hr : ∀ d ∈ C, r.testBit d = false) (hl : ∀ d ∈ C, ∀ b, b < d → r.testBit b = false) : RED (R.map (clr c r)) C := by
  induction R generalizing C with
  | nil => exact h
  | cons s R ih =>
    cases C with
    | nil => exact h.elim
    | cons d C =>
      refine ⟨?_, fun b hb => ?_, fun e he => ⟨(h.2.2.1 e he).1, ?_⟩, ih h.2.2.2 (fun e he => hr e (by simp [he])) (fun e he => hl e (by simp [he]))⟩
      · rw [clr_low (hr d (by simp))]; exact h.1
      · rw [clr_low (hl d (by simp) b hb)]; exact h.2.1 b hb
      · rw [clr_low (hr e (by simp [he]))]; exact (h.2.2.1 e he).2
theorem Sp.clr {R : List Nat} {c r x : Nat} (hr : Sp R r) (hx : Sp R x) : Sp R (clr c r x) := by
  unfold P.clr
  split
  · exact hx.xor hr
  · exact hx
theorem Sp.of_clr {R : List Nat} {c r x : Nat} (hr : Sp R r) (hx : Sp R (P.clr c r x)) : Sp R x := by
  unfold P.clr at hx
  split at hx
  · have := hx.xor hr
    rwa [Nat.xor_assoc, Nat.xor_self, Nat.xor_zero] at this
  · exact hx
end Go.Proofs.Ytbaicdgkpnbipaa.P
end
section
namespace Go.Proofs.Ytbaicdgkpnbipaa.P
open Go.RowKit Go.Proofs.YtbaicdgkpnbipaaW.PrintWords Go.Proofs.YtbaicdgkpnbipaaW.PrintLast Go.Proofs.YtbaicdgkpnbipaaW.PrintMore
set_option linter.unusedVariables false
theorem s_bit_v {a k : Nat} (ha : a < 4611686018427387904) (hk : k ≤ 62) : qbb.f (a : Int) (k : Int) = some (if a.testBit k = true then 1 else 0) := by
  unfold qbb.f
  rw [u64_id (by omega) (by omega), if_pos (by omega), bit_test (by omega) (by omega)]
theorem bit_if_pos {b : Bool} (h : b = true) : ((if b = true then 1 else 0 : Int) = 1) = True := by rw [h]; simp
theorem bit_if_neg {b : Bool} (h : b = false) : ((if b = true then 1 else 0 : Int) = 1) = False := by rw [h]; simp
theorem s_find_none {N k : Nat} (hk : k ≤ 61) {ln : List Nat} {out : List Int} (hl : ln.length ≤ 17592186044416) (hb : ∀ x ∈ ln, x < 4611686018427387904)
    (h : ∀ j, (hj : j < ln.length) → ln[j].testBit k = false) : qaa.l1d (N : Int) (up ln) out (k : Int) (-1) 0 = qaa.l0d (N : Int) (up ln) out ((k + 1 : Nat) : Int) := by
  have key : ∀ i, i ≤ ln.length → qaa.l1d (N : Int) (up ln) out (k : Int) (-1) (i : Int) = qaa.l0d (N : Int) (up ln) out ((k + 1 : Nat) : Int) := by
    apply down
    · rw [qaa.l1d_eq, if_neg (by rw [up_length]; omega), qaa.j2d_eq, if_neg (by decide), if_pos (by decide), wrS (n := 62) (by omega) (by omega)]
    · intro i hi e
      rw [qaa.l1d_eq, if_pos (by rw [up_length]; omega), qaa.j2d_eq, if_pos (by decide), if_pos (by omega), if_pos (by rw [up_length]; omega), up_get hi, s_bit_v (hb _ (List.getElem_mem hi)) (by omega), bind_some',
        if_neg (by rw [bit_if_neg (h i hi)]; exact id), wrS hi hl, e]
  exact key 0 (by omega)
theorem s_find_some {N k : Nat} (hk : k ≤ 61) {ln : List Nat} {out : List Int} (hl : ln.length ≤ 17592186044416) (hb : ∀ x ∈ ln, x < 4611686018427387904)
    {j : Nat} (hj : j < ln.length) (hbit : ln[j].testBit k = true) (h : ∀ t, (ht : t < j) → (ln[t]'(by omega)).testBit k = false) :
    qaa.l1d (N : Int) (up ln) out (k : Int) (-1) 0 = qaa.l2d (N : Int) (up (ln.set j 0)) out (k : Int) (ln[j] : Int) 0 := by
  have key : ∀ i, i ≤ j → qaa.l1d (N : Int) (up ln) out (k : Int) (-1) (i : Int) = qaa.l2d (N : Int) (up (ln.set j 0)) out (k : Int) (ln[j] : Int) 0 := by
    apply down
    · have e2 : ∀ i : Int, qaa.j2d (N : Int) (up ln) out (k : Int) (j : Int) i false = qaa.l2d (N : Int) (up (ln.set j 0)) out (k : Int) (ln[j] : Int) 0 := by
        intro i
        rw [qaa.j2d_eq, if_neg (by decide), if_neg (by omega), if_pos (by omega), if_pos (by rw [up_length]; omega), up_get hj, Int.toNat_natCast]
        rw [← up_set]; rfl
      rw [qaa.l1d_eq, if_pos (by rw [up_length]; omega), qaa.j2d_eq, if_pos (by decide), if_pos (by omega), if_pos (by rw [up_length]; omega), up_get hj, s_bit_v (hb _ (List.getElem_mem hj)) (by omega), bind_some',
        if_pos (by rw [bit_if_pos hbit]; trivial), qaa.l1d_eq]
      have e3 : decide ((j : Int) < 0) = false := decide_eq_false (by omega)
      rw [e3]
      split
      · exact e2 _
      · exact e2 _
    · intro i hi e
      have hi' : i < ln.length := by omega
      rw [qaa.l1d_eq, if_pos (by rw [up_length]; omega), qaa.j2d_eq, if_pos (by decide), if_pos (by omega), if_pos (by rw [up_length]; omega), up_get hi', s_bit_v (hb _ (List.getElem_mem hi')) (by omega), bind_some',
        if_neg (by rw [bit_if_neg (h i hi)]; exact id), wrS hi' hl, e]
  exact key 0 (by omega)
theorem clr_lt62 {c r x : Nat} (hr : r < 4611686018427387904) (hx : x < 4611686018427387904) : clr c r x < 4611686018427387904 := by
  have := clr_lt (n := 62) (c := c) (r := r) (x := x) (by omega) (by omega)
  omega
theorem clr_set {c r : Nat} {a : List Nat} {i : Nat} (hi : i < a.length) (h : a[i].testBit c = false) : a.set i (clr c r a[i]) = a := by
  unfold clr
  rw [if_neg (by rw [h]; decide), List.set_getElem_self]
theorem s_clear_left {N k lead : Nat} (hk : k ≤ 61) {ln : List Nat} {out : List Int} (hl : ln.length ≤ 17592186044416) (hb : ∀ x ∈ ln, x < 4611686018427387904) (hlead : lead < 4611686018427387904) :
    qaa.l2d (N : Int) (up ln) out (k : Int) (lead : Int) 0 = qaa.l3d (N : Int) (up (ln.map (clr k lead))) out (k : Int) (lead : Int) 0 := by
  refine map_gen (F := fun a i => qaa.l2d (N : Int) (up a) out (k : Int) (lead : Int) i) (n := ln.length) (g := fun _ x => clr k lead x) (fun _ x => x < 4611686018427387904) ln rfl
    (fun i h => hb _ (List.getElem_mem h)) (fun _ _ h => clr_lt62 hlead h) ?_ ?_
  · intro i a hi ha hq _ _
    show qaa.l2d (N : Int) (up a) out (k : Int) (lead : Int) (i : Int) = qaa.l2d (N : Int) (up (a.set i (clr k lead a[i]))) out (k : Int) (lead : Int) ((i + 1 : Nat) : Int)
    rw [qaa.l2d_eq, if_pos (by rw [up_length]; omega), if_pos (by omega), up_get hi, s_bit_v (hq i hi) (by omega), bind_some', wrS (n := ln.length) (by omega) hl]
    by_cases c : a[i].testBit k = true
    · rw [if_pos (by rw [bit_if_pos c]; trivial), bxor (by have := hq i hi; omega) (by omega), Int.toNat_natCast, up_set]
      unfold clr; rw [if_pos c]
    · have c' := Bool.eq_false_iff.mpr c
      rw [if_neg (by rw [bit_if_neg c']; exact id), clr_set hi c']
  · show qaa.l2d (N : Int) (up (ln.mapIdx fun _ x => clr k lead x)) out (k : Int) (lead : Int) (ln.length : Int) = _
    rw [mapIdx_const, qaa.l2d_eq, if_neg (by rw [up_length, List.length_map]; omega)]
theorem s_clear_out {N k lead : Nat} (hk : k ≤ 61) {left : List Int} {on : List Nat} (hl : on.length ≤ 62) (hb : ∀ x ∈ on, x < 4611686018427387904) (hlead : lead < 4611686018427387904) :
    qaa.l3d (N : Int) left (up on) (k : Int) (lead : Int) 0 = qaa.l0d (N : Int) left (up (on.map (clr k lead) ++ [lead])) ((k + 1 : Nat) : Int) := by
  refine map_gen (F := fun a i => qaa.l3d (N : Int) left (up a) (k : Int) (lead : Int) i) (n := on.length) (g := fun _ x => clr k lead x) (fun _ x => x < 4611686018427387904) on rfl
    (fun i h => hb _ (List.getElem_mem h)) (fun _ _ h => clr_lt62 hlead h) ?_ ?_
  · intro i a hi ha hq _ _
    show qaa.l3d (N : Int) left (up a) (k : Int) (lead : Int) (i : Int) = qaa.l3d (N : Int) left (up (a.set i (clr k lead a[i]))) (k : Int) (lead : Int) ((i + 1 : Nat) : Int)
    rw [qaa.l3d_eq, if_pos (by rw [up_length]; omega), if_pos (by omega), up_get hi, s_bit_v (hq i hi) (by omega), bind_some', wrS (n := on.length) (by omega) (by omega)]
    by_cases c : a[i].testBit k = true
    · rw [if_pos (by rw [bit_if_pos c]; trivial), bxor (by have := hq i hi; omega) (by omega), Int.toNat_natCast, up_set]
      unfold clr; rw [if_pos c]
    · have c' := Bool.eq_false_iff.mpr c
      rw [if_neg (by rw [bit_if_neg c']; exact id), clr_set hi c']
  · show qaa.l3d (N : Int) left (up (on.mapIdx fun _ x => clr k lead x)) (k : Int) (lead : Int) (on.length : Int) = _
    rw [mapIdx_const, qaa.l3d_eq, if_neg (by rw [up_length, List.length_map]; omega), if_pos (by rw [up_length, List.length_map]; omega), wrS (n := 62) (by omega) (by omega), up_append]; rfl
theorem low_zero {N x : Nat} (h : x < 2 ^ N) (h0 : ∀ b, b < N → x.testBit b = false) : x = 0 := by
  apply Nat.eq_of_testBit_eq
  intro b
  rw [Nat.zero_testBit]
  rcases Nat.lt_or_ge b N with z | z
  · exact h0 b z
  · exact Nat.testBit_lt_two_pow (Nat.lt_of_lt_of_le h (Nat.pow_le_pow_right (by omega) z))
theorem pow62 {N x : Nat} (hN : N ≤ 62) (h : x < 2 ^ N) : x < 4611686018427387904 :=
  Nat.lt_of_lt_of_le h (Nat.le_trans (Nat.pow_le_pow_right (by omega) hN) (by decide))
/-- the first place that has the bit, or none -/
theorem first_bit (l : List Nat) (k : Nat) : (∀ j, (h : j < l.length) → l[j].testBit k = false) ∨
    ∃ j, ∃ h : j < l.length, l[j].testBit k = true ∧ ∀ t, (ht : t < j) → (l[t]'(by omega)).testBit k = false := by
  induction l with
  | nil => exact .inl fun j h => by simp at h
  | cons x l ih =>
    by_cases c : x.testBit k = true
    · exact .inr ⟨0, by simp, c, fun t ht => by omega⟩
    · have c' := Bool.eq_false_iff.mpr c
      rcases ih with ih | ⟨j, h, a, b⟩
      · refine .inl fun j h => ?_
        cases j with
        | zero => exact c'
        | succ j => exact ih j (by simpa using h)
      · refine .inr ⟨j + 1, by simpa using h, a, fun t ht => ?_⟩
        cases t with
        | zero => exact c'
        | succ t => exact b t (by omega)
theorem s_ech_loop {N : Nat} (hN : N ≤ 62) : ∀ k, k ≤ N → ∀ (left out : List Nat), left.length ≤ 17592186044416 → (∀ x ∈ left, x < 2 ^ N ∧ ∀ b, b < k → x.testBit b = false) →
    (∀ x ∈ out, x < 2 ^ N) → out.length ≤ k → (∃ C, RED out C ∧ ∀ d ∈ C, d < k) →
    ∃ R C, qaa.l0d (N : Int) (up left) (up out) (k : Int) = some (up R) ∧ RED R C ∧ (∀ v, Sp R v ↔ Sp (out ++ left) v) ∧ (∀ x ∈ R, x < 2 ^ N) ∧ R.length ≤ N ∧ (∀ d ∈ C, d < N) := by
  apply down
  · intro left out hll hleft hout hlen ⟨C, hC, hd⟩
    refine ⟨out, C, ?_, hC, fun v => ⟨fun h => h.mono fun r hr => by simp [hr], fun h => h.sub fun r hr => ?_⟩, hout, hlen, hd⟩
    · rw [qaa.l0d_eq, if_neg (by omega)]
    · rcases List.mem_append.mp hr with hr | hr
      · exact Sp.mem hr
      · rw [low_zero (hleft r hr).1 (hleft r hr).2]; exact Sp.zero
  · intro k hk ih left out hll hleft hout hlen ⟨C, hC, hd⟩
    have b62 : ∀ x ∈ left, x < 4611686018427387904 := fun x hx => pow62 hN (hleft x hx).1
    rw [qaa.l0d_eq, if_pos (by omega)]
    rcases first_bit left k with h | ⟨j, hj, hbit, hfirst⟩
    · rw [s_find_none (by omega) hll b62 h]
      refine ih left out hll (fun x hx => ⟨(hleft x hx).1, fun b hb => ?_⟩) hout (by omega) ⟨C, hC, fun d hd' => Nat.lt_succ_of_lt (hd d hd')⟩
      rcases Nat.lt_or_ge b k with z | z
      · exact (hleft x hx).2 b z
      · obtain ⟨t, ht, e⟩ := List.getElem_of_mem hx
        rw [show b = k by omega, ← e]; exact h t ht
    · obtain ⟨lead, hlead⟩ : ∃ lead, lead = left[j] := ⟨_, rfl⟩
      have hmem : lead ∈ left := hlead ▸ List.getElem_mem hj
      have hl1 := (hleft lead hmem).1
      have hl2 := (hleft lead hmem).2
      rw [← hlead] at hbit
      have bset : ∀ x ∈ left.set j 0, x < 2 ^ N ∧ ∀ b, b < k → x.testBit b = false := by
        intro x hx
        rcases List.mem_or_eq_of_mem_set hx with hx | rfl
        · exact hleft x hx
        · exact ⟨Nat.two_pow_pos N, fun b _ => Nat.zero_testBit b⟩
      rw [s_find_some (by omega) hll b62 hj (by rw [← hlead]; exact hbit) hfirst, ← hlead,
        s_clear_left (by omega) (by rw [List.length_set]; exact hll) (fun x hx => pow62 hN (bset x hx).1) (pow62 hN hl1),
        s_clear_out (by omega) (by omega) (fun x hx => pow62 hN (hout x hx)) (pow62 hN hl1)]
      obtain ⟨R, C', e, hR, hs, hb, hlen', hd'⟩ := ih ((left.set j 0).map (clr k lead)) (out.map (clr k lead) ++ [lead]) (by simp; exact hll)
        (by
          intro x hx
          obtain ⟨y, hy, rfl⟩ := List.mem_map.mp hx
          refine ⟨clr_lt hl1 (bset y hy).1, fun b hb => ?_⟩
          rcases Nat.lt_or_ge b k with z | z
          · rw [clr_low (hl2 b z)]; exact (bset y hy).2 b z
          · rw [show b = k by omega]; exact clr_bit hbit)
        (by
          intro x hx
          rcases List.mem_append.mp hx with hx | hx
          · obtain ⟨y, hy, rfl⟩ := List.mem_map.mp hx
            exact clr_lt hl1 (hout y hy)
          · rw [List.mem_singleton] at hx; rw [hx]; exact hl1)
        (by simp; omega)
        ⟨C ++ [k], RED.snoc (hC.clr (fun d h => hl2 d (hd d h)) (fun d h b hb => hl2 b (Nat.lt_trans hb (hd d h)))) hbit hl2 hd (by
            intro s hs
            obtain ⟨y, hy, rfl⟩ := List.mem_map.mp hs
            exact clr_bit hbit), by
          intro d h
          rcases List.mem_append.mp h with h | h
          · exact Nat.lt_succ_of_lt (hd d h)
          · rw [List.mem_singleton] at h; omega⟩
      refine ⟨R, C', e, hR, fun v => (hs v).trans ⟨fun h => h.sub fun r hr => ?_, fun h => h.sub fun r hr => ?_⟩, hb, hlen', hd'⟩
      · have sl : Sp (out ++ left) lead := Sp.mem (by simp [hmem])
        rcases List.mem_append.mp hr with hr | hr
        · rcases List.mem_append.mp hr with hr | hr
          · obtain ⟨y, hy, rfl⟩ := List.mem_map.mp hr
            exact Sp.clr sl (Sp.mem (by simp [hy]))
          · rw [List.mem_singleton] at hr; rw [hr]; exact sl
        · obtain ⟨y, hy, rfl⟩ := List.mem_map.mp hr
          refine Sp.clr sl ?_
          rcases List.mem_or_eq_of_mem_set hy with hy | rfl
          · exact Sp.mem (by simp [hy])
          · exact Sp.zero
      · have sl : Sp (List.map (clr k lead) out ++ [lead] ++ List.map (clr k lead) (left.set j 0)) lead := Sp.mem (by simp)
        rcases List.mem_append.mp hr with hr | hr
        · exact Sp.of_clr sl (Sp.mem (List.mem_append.mpr (.inl (List.mem_append.mpr (.inl (List.mem_map.mpr ⟨r, hr, rfl⟩))))))
        · obtain ⟨t, ht, e⟩ := List.getElem_of_mem hr
          by_cases c : j = t
          · subst c; rw [← e, ← hlead]; exact sl
          · refine Sp.of_clr sl (Sp.mem (List.mem_append.mpr (.inr (List.mem_map.mpr ⟨r, ?_, rfl⟩))))
            rw [← e, ← List.getElem_set_ne (l := left) (a := 0) c (by simpa using ht)]
            exact List.getElem_mem _
theorem s_ech_v {N : Nat} (hN : N ≤ 62) {ln : List Nat} (hl : ln.length ≤ 1048576) (hb : ∀ x ∈ ln, x < 2 ^ N) :
    ∃ R C, qaa.d (N : Int) (up ln) = some (up R) ∧ RED R C ∧ (∀ v, Sp R v ↔ Sp ln v) ∧ (∀ x ∈ R, x < 2 ^ N) ∧ R.length ≤ N ∧ (∀ d ∈ C, d < N) := by
  obtain ⟨R, C, e, h⟩ := s_ech_loop hN 0 (by omega) ln [] (by omega) (fun x hx => ⟨hb x hx, fun b h => by omega⟩) (fun x hx => nomatch hx) (by simp) ⟨[], trivial, fun d hd => nomatch hd⟩
  refine ⟨R, C, ?_, by simpa using h⟩
  rw [qaa.d_eq]
  unfold qbf.f
  rw [bind_some', if_pos (by simp [up_length]; omega), bind_some', List.nil_append]
  exact e
theorem i_bit_v {a c : Nat} (ha : a < 4611686018427387904) (hc : c ≤ 62) : qbg.f (a : Int) (c : Int) = some (a.testBit c) := by
  unfold qbg.f
  rw [if_pos (by omega), bit_test (by omega) (by omega)]
  cases a.testBit c <;> simp
theorem i_find_v {m : List Nat} {c : Nat} (hc : c ≤ 61) (hl : m.length ≤ 17592186044416) (hb : ∀ x ∈ m, x < 4611686018427387904) :
    ∃ v, qad.d (up m) (c : Int) = some v ∧ ((v < 0 ∧ ∀ j, (h : j < m.length) → m[j].testBit c = false) ∨ ∃ j, ∃ h : j < m.length, v = (j : Int) ∧ m[j].testBit c = true) := by
  rw [qad.d_eq]
  obtain ⟨v, e, d, s⟩ := index_gen (F := fun i => qad.l0d (up m) ((up m).length : Int) i (c : Int)) (n := m.length) (q := fun i => (m.getD i 0).testBit c)
    (by show qad.l0d (up m) ((up m).length : Int) (m.length : Int) (c : Int) = _
        rw [qad.l0d_eq, if_neg (by rw [up_length]; omega)])
    (by intro i hi
        show qad.l0d (up m) ((up m).length : Int) (i : Int) (c : Int) = _
        have hg : m.getD i 0 = m[i] := by simp [List.getD_eq_getElem?_getD, hi]
        rw [qad.l0d_eq, if_pos (by rw [up_length]; omega), if_pos (by omega), if_pos (by rw [up_length]; omega), up_get hi, i_bit_v (hb _ (List.getElem_mem hi)) (by omega), bind_some', wrS hi hl, hg])
  refine ⟨v, e, ?_⟩
  by_cases h : ∀ i, i < m.length → (m.getD i 0).testBit c = false
  · left
    rw [decide_eq_true h] at d
    refine ⟨by have : ¬ v ≥ 0 := by simpa using d
               omega, fun j hj => ?_⟩
    have := h j hj
    rwa [List.getD_eq_getElem?_getD, List.getElem?_eq_getElem hj] at this
  · right
    rw [decide_eq_false h] at d
    have hv : 0 ≤ v := by simpa using d
    obtain ⟨a1, a2, _⟩ := s hv
    refine ⟨v.toNat, a1, by omega, ?_⟩
    rwa [List.getD_eq_getElem?_getD, List.getElem?_eq_getElem a1] at a2
/-- two places change their rows -/
def swp (x : List Nat) (d p : Nat) (hd : d < x.length) (hp : p < x.length) : List Nat := (x.set d x[p]).set p x[d]
theorem swp_length {x : List Nat} {d p : Nat} (hd : d < x.length) (hp : p < x.length) : (swp x d p hd hp).length = x.length := by simp [swp]
theorem swp_get {x : List Nat} {d p : Nat} (hd : d < x.length) (hp : p < x.length) {j : Nat} (h : j < (swp x d p hd hp).length) :
    (swp x d p hd hp)[j] = if p = j then x[d] else if d = j then x[p] else x[j]'(by rw [swp_length] at h; exact h) := by
  have h2 : j < ((x.set d x[p]).set p x[d]).length := h
  have e : ((x.set d x[p]).set p x[d])[j]'h2 = if p = j then x[d] else if d = j then x[p] else x[j]'(by rw [swp_length] at h; exact h) := by
    rw [List.getElem_set, List.getElem_set]
  exact e
theorem swp_mem {x : List Nat} {d p : Nat} (hd : d < x.length) (hp : p < x.length) {r : Nat} (h : r ∈ swp x d p hd hp) : r ∈ x := by
  obtain ⟨j, hj, e⟩ := List.getElem_of_mem h
  rw [swp_get] at e
  split at e
  · rw [← e]; exact List.getElem_mem _
  · split at e
    · rw [← e]; exact List.getElem_mem _
    · rw [← e]; exact List.getElem_mem _
def clrBut (d c lead : Nat) (i x : Nat) : Nat := if i = d then x else clr c lead x
theorem i_clear {x : List Nat} {d c : Nat} (hc : c ≤ 61) (hd : d < x.length) (hl : x.length ≤ 17592186044416) (hb : ∀ y ∈ x, y < 4611686018427387904) :
    qaf.l1d (up x) (d : Int) (x.length : Int) 0 (c : Int) = qaf.l0d (up (x.mapIdx (clrBut d c x[d]))) ((d + 1 : Nat) : Int) ((c + 1 : Nat) : Int) := by
  have hlead := hb _ (List.getElem_mem hd)
  refine map_gen (F := fun a i => qaf.l1d (up a) (d : Int) (x.length : Int) i (c : Int)) (n := x.length) (g := clrBut d c x[d]) (fun _ y => y < 4611686018427387904) x rfl
    (fun i h => hb _ (List.getElem_mem h)) (fun i y h => ?_) ?_ ?_
  · unfold clrBut
    split
    · exact h
    · exact clr_lt62 hlead h
  · intro i a hi ha hq hge hlt
    show qaf.l1d (up a) (d : Int) (x.length : Int) (i : Int) (c : Int) = qaf.l1d (up (a.set i (clrBut d c x[d] i a[i]))) (d : Int) (x.length : Int) ((i + 1 : Nat) : Int) (c : Int)
    have had : a[d]'(by omega) = x[d] := by
      rcases Nat.lt_or_ge d i with z | z
      · rw [hlt d z (by omega) hd]; unfold clrBut; rw [if_pos rfl]
      · exact hge d z (by omega) hd
    rw [qaf.l1d_eq, if_pos (by omega)]
    by_cases e : i = d
    · rw [if_pos (by omega), wrS (n := x.length) (by omega) hl]
      unfold clrBut
      rw [if_pos e, List.set_getElem_self]
    · rw [if_neg (by omega), if_pos (by omega), if_pos (by rw [up_length]; omega), if_pos (by omega), up_get hi, bit_test (by have := hq i hi; omega) (by omega), wrS (n := x.length) (by omega) hl, up_get (show d < a.length by omega), had]
      unfold clrBut
      rw [if_neg e]
      by_cases t : a[i].testBit c = true
      · rw [if_pos (by rw [bit_if_pos t]; trivial), if_pos (by omega), if_pos (by rw [up_length]; omega), bxor (by have := hq i hi; omega) (by omega), Int.toNat_natCast, up_set]
        unfold clr; rw [if_pos t]
      · have t' := Bool.eq_false_iff.mpr t
        rw [if_neg (by rw [bit_if_neg t']; exact id), clr_set hi t']
  · show qaf.l1d (up (x.mapIdx (clrBut d c x[d]))) (d : Int) (x.length : Int) (x.length : Int) (c : Int) = _
    rw [qaf.l1d_eq, if_neg (by omega), wrS (n := x.length) (by omega) hl, wrS (n := 62) (by omega) (by omega)]
theorem i_ech_end {N : Nat} (hN : N ≤ 62) {x : List Nat} {d : Nat} {c : Int} (hd : d ≤ x.length) : qaf.j1d (up x) (d : Int) false c = some (up (x.take d)) := by
  rw [qaf.j1d_eq, if_neg (by decide), if_pos (by omega), if_pos (by rw [up_length]; omega), Int.toNat_natCast, up_take]
theorem i_ech_loop {N : Nat} (hN : N ≤ 62) : ∀ c, c ≤ 62 → ∀ (x : List Nat) (d : Nat), x.length ≤ 17592186044416 → d ≤ x.length → (∀ y ∈ x, y < 2 ^ N) →
    (∀ j, d ≤ j → (h : j < x.length) → ∀ b, b < c → x[j].testBit b = false) → (∃ C, RED (x.take d) C ∧ ∀ e ∈ C, e < c) →
    ∃ R C, qaf.l0d (up x) (d : Int) (c : Int) = some (up R) ∧ RED R C ∧ (∀ v, Sp R v ↔ Sp x v) := by
  apply down
  · intro x d hl hd hb hlow ⟨C, hC, _⟩
    refine ⟨x.take d, C, ?_, hC, fun v => ⟨fun h => h.mono fun r hr => List.mem_of_mem_take hr, fun h => h.sub fun r hr => ?_⟩⟩
    · rw [qaf.l0d_eq, if_neg (by omega), i_ech_end hN hd]
    · obtain ⟨j, hj, e⟩ := List.getElem_of_mem hr
      rcases Nat.lt_or_ge j d with z | z
      · refine Sp.mem ?_
        have hjt : j < (x.take d).length := by rw [List.length_take]; omega
        have := List.getElem_mem hjt
        rw [List.getElem_take] at this
        rw [← e]; exact this
      · have : r = 0 := low_zero (N := 62) (Nat.lt_of_lt_of_le (hb r hr) (Nat.pow_le_pow_right (by omega) hN)) (by rw [← e]; exact hlow j z hj)
        rw [this]; exact Sp.zero
  · intro c hc ih x d hl hd hb hlow ⟨C, hC, hCc⟩
    have b62 : ∀ y ∈ x, y < 4611686018427387904 := fun y hy => pow62 hN (hb y hy)
    rw [qaf.l0d_eq, if_pos (by omega)]
    by_cases hdl : d < x.length
    · rw [decide_eq_true (by rw [up_length]; omega), qaf.j1d_eq, if_pos rfl, if_pos (by omega), if_pos (by rw [up_length]; omega), Int.toNat_natCast, up_drop]
      obtain ⟨v, ev, hv⟩ := i_find_v (m := x.drop d) (c := c) (by omega) (by rw [List.length_drop]; omega) (fun y hy => b62 y (List.mem_of_mem_drop hy))
      rw [ev, bind_some']
      rcases hv with ⟨hv, hnone⟩ | ⟨t, ht, rfl, hbit⟩
      · rw [if_pos hv, wrS (n := 62) (by omega) (by omega)]
        refine ih x d hl hd hb (fun j hj h b hbc => ?_) ⟨C, hC, fun e he => Nat.lt_succ_of_lt (hCc e he)⟩
        rcases Nat.lt_or_ge b c with z | z
        · exact hlow j hj h b z
        · have := hnone (j - d) (by rw [List.length_drop]; omega)
          rw [List.getElem_drop] at this
          simp only [show d + (j - d) = j by omega] at this
          rw [show b = c by omega]; exact this
      · rw [List.length_drop] at ht
        rw [List.getElem_drop] at hbit
        have hp : d + t < x.length := by omega
        have ep : wrap64 ((d : Int) + (t : Int)) = ((d + t : Nat) : Int) := by rw [wr (by omega) (by omega)]; omega
        rw [if_neg (by omega), ep, if_pos (by omega), if_pos (by rw [up_length]; omega), if_pos (by rw [up_length]; omega), up_get hp, up_get hdl]
        simp only [Int.toNat_natCast]
        rw [up_set, up_set, up_length]
        obtain ⟨p, hpe⟩ : ∃ p, p = d + t := ⟨_, rfl⟩
        have hp' : p < x.length := by omega
        have esw : (x.set d (x[d + t]'hp)).set (d + t) x[d] = swp x d p hdl hp' := by subst hpe; rfl
        have hbit' : x[p].testBit c = true := by subst hpe; exact hbit
        rw [esw]
        obtain ⟨s, hs⟩ : ∃ s, s = swp x d p hdl hp' := ⟨_, rfl⟩
        rw [← hs]
        have hsl : s.length = x.length := by rw [hs, swp_length]
        have hsd : d < s.length := by omega
        have hg : ∀ j, (h : j < s.length) → s[j] = if p = j then x[d] else if d = j then x[p] else x[j]'(by omega) := by
          intro j h; subst hs; exact swp_get hdl hp' h
        have hsm : ∀ r ∈ s, r ∈ x := fun r hr => swp_mem hdl hp' (hs ▸ hr)
        have hdp : d ≤ p := by omega
        obtain ⟨lead, hlead⟩ : ∃ lead, lead = s[d] := ⟨_, rfl⟩
        have elead : lead = x[p] := by
          rw [hlead, hg d hsd]
          by_cases z : p = d
          · rw [if_pos z]; simp only [z]
          · rw [if_neg z, if_pos rfl]
        have lbit : lead.testBit c = true := by rw [elead]; exact hbit'
        have llow : ∀ b, b < c → lead.testBit b = false := by rw [elead]; exact hlow p hdp hp'
        have llt : lead < 2 ^ N := by rw [elead]; exact hb _ (List.getElem_mem hp')
        have hlen : (s.mapIdx (clrBut d c lead)).length = x.length := by rw [List.length_mapIdx]; exact hsl
        have hm : ∀ j, (h : j < (s.mapIdx (clrBut d c lead)).length) → (s.mapIdx (clrBut d c lead))[j] = if j = d then lead else clr c lead (s[j]'(by rw [List.length_mapIdx] at h; exact h)) := by
          intro j h
          rw [List.getElem_mapIdx]
          unfold clrBut
          by_cases z : j = d
          · rw [if_pos z, if_pos z]; refine Eq.trans ?_ hlead.symm; simp only [z]
          · rw [if_neg z, if_neg z]
        have i1 := i_clear (x := s) (d := d) (c := c) (by omega) hsd (by omega) (fun y hy => b62 y (hsm y hy))
        rw [hsl] at i1
        rw [i1, ← hlead]
        have htake : (s.mapIdx (clrBut d c lead)).take (d + 1) = (x.take d).map (clr c lead) ++ [lead] := by
          apply List.ext_getElem
          · simp; omega
          · intro j h1 h2
            rw [List.length_take, hlen] at h1
            rw [List.getElem_take, hm]
            by_cases z : j = d
            · have hle : ((x.take d).map (clr c lead)).length ≤ j := by rw [List.length_map, List.length_take, z]; exact Nat.min_le_left _ _
              rw [if_pos z, List.getElem_append_right hle]
              simp
            · have hjd : j < d := by omega
              rw [if_neg z, List.getElem_append_left (by simp; omega), List.getElem_map, List.getElem_take, hg j (by omega), if_neg (by omega), if_neg (by omega)]
        obtain ⟨R, C', e, hR, hSp⟩ := ih (s.mapIdx (clrBut d c lead)) (d + 1) (by rw [hlen]; exact hl) (by rw [hlen]; omega)
          (by
            intro y hy
            obtain ⟨j, hj, ej⟩ := List.getElem_of_mem hy
            rw [hm j hj] at ej
            rw [← ej]
            split
            · exact llt
            · exact clr_lt llt (hb _ (hsm _ (List.getElem_mem _))))
          (by
            intro j hj h b hbc
            have hjs : j < s.length := by rw [hlen] at h; omega
            rw [hm j h, if_neg (by omega)]
            rcases Nat.lt_or_ge b c with z | z
            · rw [clr_low (llow b z), hg j hjs]
              split
              · exact hlow d (Nat.le_refl _) hdl b z
              · rw [if_neg (by omega)]; exact hlow j (by omega) (by omega) b z
            · rw [show b = c by omega]; exact clr_bit lbit)
          ⟨C ++ [c], by
            rw [htake]
            exact RED.snoc (hC.clr (fun e h => llow e (hCc e h)) (fun e h b hb' => llow b (Nat.lt_trans hb' (hCc e h)))) lbit llow hCc (by
              intro y hy
              obtain ⟨z, hz, rfl⟩ := List.mem_map.mp hy
              exact clr_bit lbit), by
            intro e h
            rcases List.mem_append.mp h with h | h
            · exact Nat.lt_succ_of_lt (hCc e h)
            · rw [List.mem_singleton] at h; omega⟩
        refine ⟨R, C', e, hR, fun v => (hSp v).trans ⟨fun h => h.sub fun r hr => ?_, fun h => h.sub fun r hr => ?_⟩⟩
        · have sl : Sp x lead := by rw [elead]; exact Sp.mem (List.getElem_mem _)
          obtain ⟨j, hj, ej⟩ := List.getElem_of_mem hr
          rw [hm j hj] at ej
          rw [← ej]
          split
          · exact sl
          · exact Sp.clr sl (Sp.mem (hsm _ (List.getElem_mem _)))
        · have hdn : d < (s.mapIdx (clrBut d c lead)).length := by rw [hlen]; exact hdl
          have sl : Sp (s.mapIdx (clrBut d c lead)) lead := by
            have := hm d hdn
            rw [if_pos rfl] at this
            have hmem := Sp.mem (List.getElem_mem hdn)
            rw [this] at hmem
            exact hmem
          have sj : ∀ j, (h : j < s.length) → Sp (s.mapIdx (clrBut d c lead)) s[j] := by
            intro j h
            by_cases z : j = d
            · have ez : s[j] = lead := by rw [hlead]; simp only [z]
              rw [ez]; exact sl
            · have hj' : j < (s.mapIdx (clrBut d c lead)).length := by rw [List.length_mapIdx]; exact h
              have := hm j hj'
              rw [if_neg z] at this
              refine Sp.of_clr (c := c) sl ?_
              rw [← this]; exact Sp.mem (List.getElem_mem hj')
          obtain ⟨j, hj, ej⟩ := List.getElem_of_mem hr
          rw [← ej]
          by_cases z : j = d
          · have hps : p < s.length := hsl.symm ▸ hp'
            have := sj p hps
            rw [hg p hps, if_pos rfl] at this
            have ez : x[j] = x[d] := by simp only [z]
            rw [ez]; exact this
          · by_cases z2 : j = p
            · have ez : x[j] = x[p] := by simp only [z2]
              rw [ez, ← elead]; exact sl
            · have hjs : j < s.length := hsl.symm ▸ hj
              have := sj j hjs
              rw [hg j hjs, if_neg (fun e => z2 e.symm), if_neg (fun e => z e.symm)] at this
              exact this
    · rw [decide_eq_false (by rw [up_length]; omega), i_ech_end hN hd]
      refine ⟨x.take d, C, rfl, hC, fun v => ?_⟩
      rw [List.take_of_length_le (by omega)]
theorem i_ech_v {N : Nat} (hN : N ≤ 62) {ln : List Nat} (hl : ln.length ≤ 1048576) (hb : ∀ x ∈ ln, x < 2 ^ N) :
    ∃ R C, qaf.d (up ln) = some (up R) ∧ RED R C ∧ (∀ v, Sp R v ↔ Sp ln v) := by
  rw [qaf.d_eq]
  unfold qba.f
  rw [if_pos (by rw [up_length]; omega), bind_some']
  exact i_ech_loop hN 0 (by omega) ln 0 (by omega) (by omega) hb (fun j _ h b hb => by omega) ⟨[], trivial, fun d hd => nomatch hd⟩
/-- both sides: the one list of reduced rows with these sums -/
theorem ech_v {N : Nat} (hN : N ≤ 62) {ln : List Nat} (hl : ln.length ≤ 1048576) (hb : ∀ x ∈ ln, x < 2 ^ N) :
    ∃ R C, qaa.d (N : Int) (up ln) = some (up R) ∧ qaf.d (up ln) = some (up R) ∧ RED R C ∧ (∀ v, Sp R v ↔ Sp ln v) ∧ (∀ x ∈ R, x < 2 ^ N) ∧ R.length ≤ N ∧ (∀ d ∈ C, d < N) := by
  obtain ⟨R, C, e, h, hs, hb', hl', hd⟩ := s_ech_v hN hl hb
  obtain ⟨R', C', e', h', hs'⟩ := i_ech_v hN hl hb
  obtain ⟨rfl, rfl⟩ := h.unique h' fun v => (hs v).trans (hs' v).symm
  exact ⟨R, C, e, e', h, hs, hb', hl', hd⟩
/-- a number of m places -/
def elemB (m x : Int) : Bool := decide (0 ≤ x) && decide (x < 2 ^ m.toNat)
theorem elems_up {N : Nat} {l : List Int} (h : l.all (elemB (N : Int)) = true) : ∃ ln : List Nat, l = up ln ∧ ∀ x ∈ ln, x < 2 ^ N := by
  rw [List.all_eq_true] at h
  have he : ∀ x ∈ l, 0 ≤ x ∧ x < 2 ^ N := fun x hx => by
    have := h x hx
    unfold elemB at this
    simpa using this
  refine ⟨l.map Int.toNat, (up_of fun x hx => (he x hx).1).symm, fun x hx => ?_⟩
  obtain ⟨y, hy, rfl⟩ := List.mem_map.mp hx
  have := he y hy
  have e : ((2 ^ N : Nat) : Int) = (2 : Int) ^ N := by simp
  omega
def matB (c : Int) (l : List Int) : Bool := (decide (1 ≤ c) && decide (c ≤ 10)) && (decide (l.length ≤ 10) && l.all (elemB c))
theorem mat_up {c : Int} {l : List Int} (h : matB c l = true) : ∃ N : Nat, ∃ ln : List Nat, c = (N : Int) ∧ 1 ≤ N ∧ N ≤ 10 ∧ l = up ln ∧ ln.length ≤ 10 ∧ ∀ x ∈ ln, x < 2 ^ N := by
  unfold matB at h
  simp only [Bool.and_eq_true, decide_eq_true_eq] at h
  obtain ⟨⟨h1, h2⟩, h3, h4⟩ := h
  obtain ⟨N, rfl⟩ : ∃ N : Nat, c = (N : Int) := ⟨c.toNat, by omega⟩
  obtain ⟨ln, rfl, hb⟩ := elems_up h4
  exact ⟨N, ln, rfl, by omega, by omega, rfl, by rwa [up_length] at h3, hb⟩
theorem one_shl {N : Nat} (h : N ≤ 60) : shl .i64 1 (N : Int) = ((2 ^ N : Nat) : Int) := by
  have h2 : 2 ^ N ≤ 2 ^ 60 := Nat.pow_le_pow_right (by omega) h
  have := shl_nat (a := 1) (c := N) (by omega) (by omega)
  rw [Nat.one_mul] at this
  exact this
theorem full_v {c : Int} (h1 : 1 ≤ c) (h2 : c ≤ 10) : wrap64 (shl .i64 1 c - 1) = 2 ^ c.toNat - 1 := by
  obtain ⟨N, rfl⟩ : ∃ N : Nat, c = (N : Int) := ⟨c.toNat, by omega⟩
  have h3 : 2 ^ N ≤ 2 ^ 10 := Nat.pow_le_pow_right (by omega) (by omega)
  have e : ((2 ^ N : Nat) : Int) = (2 : Int) ^ N := by simp
  rw [one_shl (by omega), Int.toNat_natCast, ← e]
  generalize 2 ^ N = G at h3
  rw [wr (by omega) (by omega)]
theorem within_v (x b : Int) : (if x ≥ 0 then some (decide (x ≤ b - 1)) else some false) = some (decide (0 ≤ x) && decide (x < b)) := by
  by_cases c : x ≥ 0
  · rw [if_pos c, decide_eq_true (show 0 ≤ x from c), Bool.true_and]
    congr 1; apply decide_eq_decide.mpr; omega
  · rw [if_neg c, decide_eq_false (show ¬ 0 ≤ x from c), Bool.false_and]
theorem i_mhas_v {c : Int} (h1 : 1 ≤ c) (h2 : c ≤ 10) (l : List Int) (x : Int) : qbh.f c l x = some (elemB c x) := by
  unfold qbh.f qbc.f elemB
  rw [if_pos (by omega), full_v h1 h2, within_v, bind_some']
theorem i_ValidMatrix_v (c : Int) {l : List Int} (hl : l.length ≤ 17592186044416) : qa3.d c l = some (matB c l) := by
  rw [qa3.d_eq]
  unfold qbc.f matB
  by_cases h1 : 1 ≤ c
  · rw [if_pos (by omega), bind_some']
    by_cases h2 : c ≤ 10
    · rw [if_pos (by simpa using h2)]
      by_cases h3 : l.length ≤ 10
      · rw [if_pos (by omega), qai.d_eq, qac.d_eq]
        obtain ⟨v, e, d, _⟩ := index_gen (F := fun i => qac.l0d l (l.length : Int) i c l) (n := l.length) (q := fun i => !(elemB c (rd l (i : Int))))
          (by show qac.l0d l (l.length : Int) (l.length : Int) c l = _
              rw [qac.l0d_eq, if_neg (by omega)])
          (by intro i hi
              show qac.l0d l (l.length : Int) (i : Int) c l = _
              rw [qac.l0d_eq, if_pos (by omega), if_pos (by omega), if_pos (by omega)]
              unfold qbd.f
              rw [i_mhas_v h1 h2, bind_some', bind_some', wrS hi hl])
        have e' : qac.l0d l (l.length : Int) 0 c l = some v := e
        rw [e', bind_some', bind_some', d, Bool.not_not, decide_eq_true h1, decide_eq_true h2, decide_eq_true h3]
        simp only [Bool.true_and]
        congr 1
        rw [← all_get]
        apply decide_eq_decide.mpr
        simp only [Bool.not_eq_false']
      · rw [if_neg (by omega), decide_eq_false h3]; simp
    · rw [if_neg (by simpa using h2), decide_eq_false h2]; simp
  · rw [if_neg (by omega), bind_some', if_neg (by decide), decide_eq_false h1]; simp
theorem s_l02Ok_v (c : Int) {l : List Int} (hl : l.length ≤ 17592186044416) : qal.d c l = some (matB c l) := by
  rw [qal.d_eq]
  unfold qa8.f matB
  by_cases h1 : 1 ≤ c
  · rw [if_pos (by omega), bind_some']
    by_cases h2 : c ≤ 10
    · rw [if_pos (by simpa using h2), qal.j0d_eq]
      by_cases h3 : l.length ≤ 10
      · rw [if_neg (by simp; omega)]
        have := all_gen (F := fun i => qal.l0d i c l) (n := l.length) (q := fun i => elemB c (rd l (i : Int)))
          (by show qal.l0d (l.length : Int) c l = _
              rw [qal.l0d_eq, if_neg (by omega)])
          (by intro i hi
              show qal.l0d (i : Int) c l = _
              unfold elemB
              rw [qal.l0d_eq, if_pos (by omega), if_pos (by omega), u64_id (by omega) (by omega), if_pos (by omega), full_v h1 h2]
              unfold qa8.f
              rw [within_v, bind_some', wrS hi hl])
        have this' : qal.l0d 0 c l = some (decide (∀ i, i < l.length → elemB c (rd l (i : Int)) = true)) := this
        rw [this', decide_eq_true h1, decide_eq_true h2, decide_eq_true h3]
        simp only [Bool.true_and]
        congr 1
        exact all_get
      · rw [if_pos (by simp; omega), decide_eq_false h3]; simp
    · rw [if_neg (by simpa using h2), qal.j0d_eq, if_pos rfl, decide_eq_false h2]; simp
  · rw [if_neg (by omega), bind_some', if_neg (by decide), qal.j0d_eq, if_pos rfl, decide_eq_false h1]; simp
theorem s_same_v {a b : List Int} (h : a.length ≤ 17592186044416) : qau.d a b = some (decide (a = b)) := by
  rw [qau.d_eq]
  by_cases hl : a.length = b.length
  · rw [if_pos (by omega)]
    have key : ∀ i, i ≤ a.length → qau.l0d a b (i : Int) = some (decide (a.drop i = b.drop i)) := by
      apply down
      · rw [qau.l0d_eq, if_neg (by omega)]; simp [hl]
      · intro i hi ih
        have hb : i < b.length := by omega
        rw [qau.l0d_eq, if_pos (by omega), if_pos (by omega), if_pos (by omega), wrS hi h, rd_get hi, rd_get hb, ih]
        rw [List.drop_eq_getElem_cons hi, List.drop_eq_getElem_cons hb]
        by_cases c : a[i] = b[i]
        · rw [if_pos c]; simp only [List.cons.injEq, c, true_and]
        · rw [if_neg c]; simp only [List.cons.injEq, c, false_and, decide_false]
    have := key 0 (by omega)
    simpa using this
  · rw [if_neg (by omega)]
    have : a ≠ b := fun e => hl (by rw [e])
    simp [this]
theorem i_equal_v {a b : List Int} (h : a.length ≤ 17592186044416) : qah.d a b = some (decide (a = b)) := by
  rw [qah.d_eq]
  by_cases hl : a.length = b.length
  · rw [if_pos (by omega)]
    have key : ∀ i, i ≤ a.length → qah.l0d a b (a.length : Int) (i : Int) = some (decide (a.drop i = b.drop i)) := by
      apply down
      · rw [qah.l0d_eq, if_neg (by omega)]; simp [hl]
      · intro i hi ih
        have hb : i < b.length := by omega
        rw [qah.l0d_eq, if_pos (by omega), if_pos (by omega), if_pos (by omega), if_pos (by omega), wrS hi h, rd_get hi, rd_get hb, ih]
        rw [List.drop_eq_getElem_cons hi, List.drop_eq_getElem_cons hb]
        by_cases c : a[i] = b[i]
        · rw [if_pos c]; simp only [List.cons.injEq, c, true_and]
        · rw [if_neg c]; simp only [List.cons.injEq, c, false_and, decide_false]
    have := key 0 (by omega)
    simpa using this
  · rw [if_neg (by omega)]
    have : a ≠ b := fun e => hl (by rw [e])
    simp [this]
/-- a matrix in echelon form -/
noncomputable def spaceB (c : Int) (l : List Int) : Bool := matB c l && decide (qaf.d l = some l)
theorem i_IsSpace_v (c : Int) {l : List Int} (hl : l.length ≤ 17592186044416) : qa0.d c l = some (spaceB c l) := by
  rw [qa0.d_eq, i_ValidMatrix_v c hl, bind_some']
  unfold spaceB
  by_cases h : matB c l = true
  · rw [if_pos h, h, Bool.true_and]
    obtain ⟨N, ln, rfl, hN1, hN, rfl, hlen, hb⟩ := mat_up h
    obtain ⟨R, C, e1, e2, _, _, _, hR, _⟩ := ech_v (N := N) (by omega) (ln := ln) (by omega) hb
    rw [e2, bind_some', i_equal_v (by rw [up_length]; omega), bind_some']
    congr 1; apply decide_eq_decide.mpr
    exact ⟨fun e => by rw [e], fun e => Option.some.inj e⟩
  · rw [if_neg h, Bool.eq_false_iff.mpr h]; rfl
theorem s_l02Space_v (c : Int) {l : List Int} (hl : l.length ≤ 17592186044416) : qav.d c l = some (spaceB c l) := by
  rw [qav.d_eq, s_l02Ok_v c hl, bind_some']
  unfold spaceB
  by_cases h : matB c l = true
  · rw [if_pos h, h, Bool.true_and]
    obtain ⟨N, ln, rfl, hN1, hN, rfl, hlen, hb⟩ := mat_up h
    obtain ⟨R, C, e1, e2, _, _, _, hR, _⟩ := ech_v (N := N) (by omega) (ln := ln) (by omega) hb
    rw [e1, bind_some', s_same_v (by rw [up_length]; omega), bind_some', e2]
    congr 1; apply decide_eq_decide.mpr
    exact ⟨fun e => by rw [e], fun e => Option.some.inj e⟩
  · rw [if_neg h, Bool.eq_false_iff.mpr h]; rfl
/-- a space's rows are reduced -/
theorem space_up {c : Int} {l : List Int} (h : spaceB c l = true) : ∃ N : Nat, ∃ R C : List Nat, c = (N : Int) ∧ 1 ≤ N ∧ N ≤ 10 ∧ l = up R ∧ R.length ≤ 10 ∧ (∀ x ∈ R, x < 2 ^ N) ∧ RED R C ∧ ∀ d ∈ C, d < N := by
  unfold spaceB at h
  simp only [Bool.and_eq_true, decide_eq_true_eq] at h
  obtain ⟨N, ln, rfl, hN1, hN, rfl, hlen, hb⟩ := mat_up h.1
  obtain ⟨R, C, e1, e2, hR, _, hRb, hRl, hd⟩ := ech_v (N := N) (by omega) (ln := ln) (by omega) hb
  have e : R = ln := by
    have := h.2; rw [e2] at this
    exact up_inj (Option.some.inj this)
  subst e
  exact ⟨N, R, C, rfl, hN1, hN, rfl, hlen, hb, hR, hd⟩
/-- what both tell of two spaces: 0, 1 (no spaces), 2 (other columns) -/
noncomputable def bothCode (c : Int) (l : List Int) (d : Int) (k : List Int) : Int := if spaceB c l = true ∧ spaceB d k = true then (if c = d then 0 else 2) else 1
theorem i_both_v (c : Int) {l : List Int} (d : Int) {k : List Int} (hl : l.length ≤ 17592186044416) (hk : k.length ≤ 17592186044416) : qam.d c l d k = some (bothCode c l d k) := by
  rw [qam.d_eq, i_IsSpace_v c hl, bind_some']
  unfold bothCode
  by_cases h1 : spaceB c l = true
  · rw [if_pos h1, i_IsSpace_v d hk, bind_some', qam.j0d_eq]
    by_cases h2 : spaceB d k = true
    · rw [if_neg (by simp [h2])]
      by_cases e : c = d
      · rw [if_pos e, if_pos ⟨h1, h2⟩, if_pos e]
      · rw [if_neg e, if_pos ⟨h1, h2⟩, if_neg e]
    · rw [if_pos (by simp [h2]), if_neg (fun z => h2 z.2)]
  · rw [if_neg h1, qam.j0d_eq, if_pos rfl, if_neg (fun z => h1 z.1)]
theorem s_both_v (c : Int) {l : List Int} (d : Int) {k : List Int} (hl : l.length ≤ 17592186044416) (hk : k.length ≤ 17592186044416) : qat.d c l d k = some (bothCode c l d k) := by
  rw [qat.d_eq, s_l02Space_v c hl, bind_some']
  unfold bothCode
  by_cases h1 : spaceB c l = true
  · rw [if_pos h1, s_l02Space_v d hk, bind_some', qat.j0d_eq]
    by_cases h2 : spaceB d k = true
    · rw [if_neg (by simp [h2])]
      by_cases e : c = d
      · rw [if_pos e, if_pos ⟨h1, h2⟩, if_pos e]
      · rw [if_neg e, if_pos ⟨h1, h2⟩, if_neg e]
    · rw [if_pos (by simp [h2]), if_neg (fun z => h2 z.2)]
  · rw [if_neg h1, qat.j0d_eq, if_pos rfl, if_neg (fun z => h1 z.1)]
theorem both_up {c : Int} {l : List Int} {d : Int} {k : List Int} (h : bothCode c l d k = 0) :
    ∃ N : Nat, ∃ R C R' C' : List Nat, c = (N : Int) ∧ d = (N : Int) ∧ 1 ≤ N ∧ N ≤ 10 ∧ l = up R ∧ k = up R' ∧ R.length ≤ 10 ∧ R'.length ≤ 10 ∧ (∀ x ∈ R, x < 2 ^ N) ∧ (∀ x ∈ R', x < 2 ^ N) ∧ RED R C ∧ RED R' C' := by
  unfold bothCode at h
  by_cases z : spaceB c l = true ∧ spaceB d k = true
  · rw [if_pos z] at h
    by_cases e : c = d
    · obtain ⟨N, R, C, h1, h2, h3, h4, h5, h6, h7, _⟩ := space_up z.1
      obtain ⟨N', R', C', g1, g2, g3, g4, g5, g6, g7, _⟩ := space_up z.2
      have : N' = N := by omega
      subst this
      exact ⟨N', R, C, R', C', h1, g1, h2, h3, h4, g4, h5, g5, h6, g6, h7, g7⟩
    · rw [if_neg e] at h; exact absurd h (by decide)
  · rw [if_neg z] at h; exact absurd h (by decide)
theorem sum_v {N : Nat} (hN : N ≤ 62) {u v : List Nat} (d : Int) (hu : u.length ≤ 1000) (hv : v.length ≤ 1000) (bu : ∀ x ∈ u, x < 2 ^ N) (bv : ∀ x ∈ v, x < 2 ^ N) :
    ∃ S C, qa6.d (N : Int) (up u) d (up v) = some ((N : Int), up S) ∧ qay.d (N : Int) (up u) d (up v) = some ((N : Int), up S) ∧ RED S C ∧ (∀ x, Sp S x ↔ Sp (u ++ v) x) ∧ (∀ x ∈ S, x < 2 ^ N) ∧ S.length ≤ N ∧ ∀ e ∈ C, e < N := by
  obtain ⟨S, C, e1, e2, h⟩ := ech_v (N := N) hN (ln := u ++ v) (by rw [List.length_append]; omega) (fun x hx => by
    rcases List.mem_append.mp hx with z | z
    · exact bu x z
    · exact bv x z)
  refine ⟨S, C, ?_, ?_, h⟩
  · rw [qa6.d_eq]
    unfold qbf.f
    rw [bind_some', if_pos (by rw [up_length]; simp; omega), bind_some', List.nil_append, if_pos (by rw [up_length, up_length]; omega), ← up_append, e1, bind_some']
  · rw [qay.d_eq]
    unfold qa7.f
    have : ([up u, up v] : List (List Int)).flatten = up (u ++ v) := by rw [up_append]; simp
    rw [this, if_pos (by rw [up_length, List.length_append]; omega), bind_some', e2, bind_some']
end Go.Proofs.Ytbaicdgkpnbipaa.P
end
section
namespace Go.Proofs.Ytbaicdgkpnbipaa.P
set_option linter.unusedVariables false
/-- the sum of the n lowest bits -/
def par : Nat → Nat → Bool
  | 0, _ => false
  | n + 1, x => xor (x.testBit 0) (par n (x / 2))
theorem par_zero : ∀ n, par n 0 = false
  | 0 => rfl
  | n + 1 => by rw [par, Nat.zero_div, par_zero n]; simp
theorem xor_half (x y : Nat) : (x ^^^ y) / 2 = x / 2 ^^^ y / 2 := by
  apply Nat.eq_of_testBit_eq
  intro i
  rw [Nat.testBit_xor, Nat.testBit_div_two, Nat.testBit_div_two, Nat.testBit_div_two, Nat.testBit_xor]
theorem par_xor : ∀ n x y, par n (x ^^^ y) = xor (par n x) (par n y)
  | 0, _, _ => rfl
  | n + 1, x, y => by
    rw [par, par, par, xor_half, par_xor n, Nat.testBit_xor]
    cases x.testBit 0 <;> cases y.testBit 0 <;> cases par n (x / 2) <;> cases par n (y / 2) <;> rfl
theorem pow_half (k : Nat) : 2 ^ (k + 1) / 2 = 2 ^ k := by rw [Nat.pow_succ]; omega
theorem par_pow : ∀ n k, k < n → par n (2 ^ k) = true
  | 0, _, h => by omega
  | n + 1, 0, _ => by rw [par, show (2 ^ 0 : Nat) / 2 = 0 from rfl, par_zero]; rfl
  | n + 1, k + 1, h => by
    rw [par, pow_half, par_pow n k (by omega), Nat.testBit_two_pow]
    simp
/-- the product of two rows of n places -/
def dot (n a b : Nat) : Bool := par n (a &&& b)
theorem dot_xor (n a b c : Nat) : dot n a (b ^^^ c) = xor (dot n a b) (dot n a c) := by
  unfold dot
  rw [← par_xor]
  congr 1
  apply Nat.eq_of_testBit_eq
  intro i
  simp only [Nat.testBit_and, Nat.testBit_xor]
  cases a.testBit i <;> simp
theorem dot_xor' (n a b c : Nat) : dot n (b ^^^ c) a = xor (dot n b a) (dot n c a) := by
  unfold dot
  rw [← par_xor]
  congr 1
  apply Nat.eq_of_testBit_eq
  intro i
  simp only [Nat.testBit_and, Nat.testBit_xor]
  cases a.testBit i <;> simp
theorem dot_zero (n a : Nat) : dot n a 0 = false := by unfold dot; rw [Nat.and_zero, par_zero]
theorem dot_zero' (n a : Nat) : dot n 0 a = false := by unfold dot; rw [Nat.zero_and, par_zero]
theorem dot_pow {n k : Nat} (h : k < n) (a : Nat) : dot n a (2 ^ k) = a.testBit k := by
  unfold dot
  by_cases c : a.testBit k = true
  · have : a &&& 2 ^ k = 2 ^ k := by
      apply Nat.eq_of_testBit_eq
      intro i
      rw [Nat.testBit_and, Nat.testBit_two_pow]
      by_cases e : k = i
      · subst e; simp [c]
      · simp [e]
    rw [this, par_pow n k h, c]
  · have c' := Bool.eq_false_iff.mpr c
    have : a &&& 2 ^ k = 0 := by
      apply Nat.eq_of_testBit_eq
      intro i
      rw [Nat.testBit_and, Nat.testBit_two_pow, Nat.zero_testBit]
      by_cases e : k = i
      · subst e; simp [c']
      · simp [e]
    rw [this, par_zero, c']
/-- x has the product 0 with all rows -/
def Ker (n : Nat) (rows : List Nat) (x : Nat) : Prop := x < 2 ^ n ∧ ∀ r ∈ rows, dot n r x = false
theorem Ker.zero (n : Nat) (rows : List Nat) : Ker n rows 0 := ⟨Nat.two_pow_pos n, fun r _ => dot_zero n r⟩
theorem Ker.xor {n : Nat} {rows : List Nat} {x y : Nat} (hx : Ker n rows x) (hy : Ker n rows y) : Ker n rows (x ^^^ y) :=
  ⟨Nat.xor_lt_two_pow hx.1 hy.1, fun r hr => by rw [dot_xor, hx.2 r hr, hy.2 r hr]; rfl⟩
theorem Ker.sp {n : Nat} {rows V : List Nat} (h : ∀ v ∈ V, Ker n rows v) {x : Nat} (hx : Sp V x) : Ker n rows x := by
  induction hx with
  | zero => exact Ker.zero n rows
  | add hr _ ih => exact ih.xor (h _ hr)
theorem dot_sp {n x : Nat} {rows : List Nat} (h : ∀ r ∈ rows, dot n r x = false) {s : Nat} (hs : Sp rows s) : dot n s x = false := by
  induction hs with
  | zero => exact dot_zero' n x
  | add hr _ ih => rw [dot_xor', ih, h _ hr]; rfl
theorem Ker.of_sp {n : Nat} {R S : List Nat} (h : ∀ v, Sp R v ↔ Sp S v) {x : Nat} : Ker n R x ↔ Ker n S x :=
  ⟨fun k => ⟨k.1, fun s hs => dot_sp k.2 ((h s).mpr (Sp.mem hs))⟩, fun k => ⟨k.1, fun s hs => dot_sp k.2 ((h s).mp (Sp.mem hs))⟩⟩
/-- the leads of the rows that have the place c -/
def lc (c : Nat) : List Nat → List Nat → Nat
  | r :: R, d :: C => (if r.testBit c = true then 2 ^ d else 0) ^^^ lc c R C
  | _, _ => 0
theorem dot_lc_zero {n c s : Nat} : ∀ {R C : List Nat}, (∀ d ∈ C, d < n) → (∀ d ∈ C, s.testBit d = false) → dot n s (lc c R C) = false
  | r :: R, d :: C, hn, h => by
    rw [lc, dot_xor, dot_lc_zero (fun d hd => hn d (by simp [hd])) fun d hd => h d (by simp [hd])]
    split
    · rw [dot_pow (hn d (by simp)), h d (by simp)]; rfl
    · rw [dot_zero]; rfl
  | [], _, _, _ => by rw [lc, dot_zero]; intro _ _ _ _ h; cases h
  | _ :: _, [], _, _ => by rw [lc, dot_zero]; intro _ _ _ _ _ h; cases h
theorem dot_lc {n c : Nat} : ∀ {R C : List Nat}, RED R C → (∀ d ∈ C, d < n) → ∀ s ∈ R, dot n s (lc c R C) = s.testBit c
  | r :: R, d :: C, h, hn, s, hs => by
    rw [lc, dot_xor]
    rcases List.mem_cons.mp hs with rfl | hs
    · rw [dot_lc_zero (fun d hd => hn d (by simp [hd])) fun e he => (h.2.2.1 e he).2]
      split
      · rename_i e; rw [dot_pow (hn d (by simp)), h.1, e]; rfl
      · rename_i e; rw [dot_zero, Bool.eq_false_iff.mpr e]; rfl
    · rw [dot_lc h.2.2.2 (fun d hd => hn d (by simp [hd])) s hs]
      have low : s.testBit d = false := h.2.2.2.low (fun e he => (h.2.2.1 e he).1) s hs
      split
      · rw [dot_pow (hn d (by simp)), low]; simp
      · rw [dot_zero]; simp
  | [], _, _, _, s, hs => by cases hs
  | _ :: _, [], h, _, _, _ => h.elim
theorem RED.pick {R C : List Nat} (h : RED R C) {c : Nat} (hc : c ∈ C) : ∃ s ∈ R, s.testBit c = true ∧ ∀ d ∈ C, s.testBit d = true → d = c := by
  induction R generalizing C with
  | nil => cases C with
    | nil => cases hc
    | cons => exact h.elim
  | cons r R ih => cases C with
    | nil => exact h.elim
    | cons e C =>
      rcases List.mem_cons.mp hc with rfl | hc
      · refine ⟨r, by simp, h.1, fun d hd hb => ?_⟩
        rcases List.mem_cons.mp hd with rfl | hd
        · rfl
        · rw [(h.2.2.1 d hd).2] at hb; cases hb
      · obtain ⟨s, hs, a, b⟩ := ih h.2.2.2 hc
        refine ⟨s, by simp [hs], a, fun d hd hb => ?_⟩
        rcases List.mem_cons.mp hd with rfl | hd
        · rw [h.2.2.2.low (fun e he => (h.2.2.1 e he).1) s hs] at hb; cases hb
        · exact b d hd hb
/-- what the free place c gives -/
def vc (R C : List Nat) (c : Nat) : Nat := 2 ^ c ^^^ lc c R C
theorem lc_lt {n c : Nat} : ∀ {R C : List Nat}, (∀ d ∈ C, d < n) → lc c R C < 2 ^ n
  | r :: R, d :: C, hn => by
    rw [lc]
    refine Nat.xor_lt_two_pow ?_ (lc_lt fun d hd => hn d (by simp [hd]))
    split
    · exact Nat.pow_lt_pow_right (by omega) (hn d (by simp))
    · exact Nat.two_pow_pos n
  | [], _, _ => by rw [lc]; exact Nat.two_pow_pos n; intro _ _ _ _ h; cases h
  | _ :: _, [], _ => by rw [lc]; exact Nat.two_pow_pos n; intro _ _ _ _ _ h; cases h
theorem lc_bit {c b : Nat} : ∀ {R C : List Nat}, b ∉ C → (lc c R C).testBit b = false
  | r :: R, d :: C, h => by
    rw [lc, Nat.testBit_xor, lc_bit (fun hd => h (by simp [hd]))]
    split
    · rw [Nat.testBit_two_pow]
      have : d ≠ b := fun e => h (by simp [e])
      simp [this]
    · simp
  | [], _, _ => by rw [lc, Nat.zero_testBit]; intro _ _ _ _ h; cases h
  | _ :: _, [], _ => by rw [lc, Nat.zero_testBit]; intro _ _ _ _ _ h; cases h
theorem vc_ker {n c : Nat} {R C : List Nat} (h : RED R C) (hn : ∀ d ∈ C, d < n) (hc : c < n) : Ker n R (vc R C c) :=
  ⟨Nat.xor_lt_two_pow (Nat.pow_lt_pow_right (by omega) hc) (lc_lt hn), fun s hs => by unfold vc; rw [dot_xor, dot_lc h hn s hs, dot_pow hc]; simp⟩
/-- the free places below n -/
def free (n : Nat) (C : List Nat) : List Nat := (List.range n).filter fun c => !C.contains c
theorem mem_free {n : Nat} {C : List Nat} {c : Nat} : c ∈ free n C ↔ c < n ∧ c ∉ C := by simp [free, List.contains_eq_mem]
theorem ker_zero {n : Nat} {R C : List Nat} (h : RED R C) (hn : ∀ d ∈ C, d < n) {x : Nat} (hx : Ker n R x) (h0 : ∀ c, c < n → c ∉ C → x.testBit c = false) : x = 0 := by
  apply Nat.eq_of_testBit_eq
  intro b
  rw [Nat.zero_testBit]
  rcases Nat.lt_or_ge b n with hb | hb
  · by_cases hc : b ∈ C
    · obtain ⟨s, hs, a, u⟩ := h.pick hc
      have e := hx.2 s hs
      have e' : s &&& x = if x.testBit b = true then 2 ^ b else 0 := by
        apply Nat.eq_of_testBit_eq
        intro i
        rw [Nat.testBit_and]
        by_cases e1 : x.testBit i = true
        · have hi : i ∈ C := by
            apply Classical.byContradiction
            intro hi
            rcases Nat.lt_or_ge i n with z | z
            · rw [h0 i z hi] at e1; cases e1
            · rw [Nat.testBit_lt_two_pow (Nat.lt_of_lt_of_le hx.1 (Nat.pow_le_pow_right (by omega) z))] at e1; cases e1
          by_cases e2 : s.testBit i = true
          · have : i = b := u i hi e2
            subst this
            rw [e1, e2, if_pos rfl, Nat.testBit_two_pow]; simp
          · have e2' := Bool.eq_false_iff.mpr e2
            rw [e2', Bool.false_and]
            have : b ≠ i := fun w => by rw [← w, a] at e2; exact e2 rfl
            split
            · rw [Nat.testBit_two_pow]; simp [this]
            · rw [Nat.zero_testBit]
        · have e1' := Bool.eq_false_iff.mpr e1
          rw [e1', Bool.and_false]
          split
          · rename_i w
            have : b ≠ i := fun z => by rw [z] at w; exact e1 w
            rw [Nat.testBit_two_pow]; simp [this]
          · rw [Nat.zero_testBit]
      unfold dot at e
      rw [e'] at e
      by_cases w : x.testBit b = true
      · rw [if_pos w, par_pow n b hb] at e; cases e
      · exact Bool.eq_false_iff.mpr w
    · exact h0 b hb hc
  · exact Nat.testBit_lt_two_pow (Nat.lt_of_lt_of_le hx.1 (Nat.pow_le_pow_right (by omega) hb))
theorem vc_bit {R C : List Nat} {b c : Nat} (hb : b ∉ C) : (vc R C c).testBit b = decide (c = b) := by
  unfold vc
  rw [Nat.testBit_xor, lc_bit hb, Nat.testBit_two_pow, Bool.xor_false]
theorem ker_sp {n : Nat} {R C : List Nat} (h : RED R C) (hn : ∀ d ∈ C, d < n) {x : Nat} : Ker n R x ↔ Sp ((free n C).map (vc R C)) x := by
  constructor
  · have key : ∀ k, k ≤ n → ∀ x, Ker n R x → (∀ c, c < n → c ∉ C → k ≤ c → x.testBit c = false) → Sp ((free n C).map (vc R C)) x := by
      intro k
      induction k with
      | zero => intro _ x hx h0; rw [ker_zero h hn hx fun c a b => h0 c a b (by omega)]; exact Sp.zero
      | succ k ih =>
        intro hk x hx h0
        by_cases c : k ∉ C ∧ x.testBit k = true
        · have m : vc R C k ∈ (free n C).map (vc R C) := List.mem_map.mpr ⟨k, mem_free.mpr ⟨by omega, c.1⟩, rfl⟩
          have := ih (by omega) (x ^^^ vc R C k) (hx.xor (vc_ker h hn (by omega))) ?_
          · have := this.xor (Sp.mem m)
            rwa [Nat.xor_assoc, Nat.xor_self, Nat.xor_zero] at this
          · intro d hd hdC hkd
            rw [Nat.testBit_xor, vc_bit hdC]
            by_cases e : k = d
            · subst e; rw [c.2]; simp
            · rw [h0 d hd hdC (by omega)]; simp [e]
        · refine ih (by omega) x hx fun d hd hdC hkd => ?_
          by_cases e : k = d
          · subst e
            exact Bool.eq_false_iff.mpr fun z => c ⟨hdC, z⟩
          · exact h0 d hd hdC (by omega)
    intro hx
    exact key n (by omega) x hx fun c a _ b => by omega
  · intro hx
    refine Ker.sp (fun v hv => ?_) hx
    obtain ⟨c, hc, rfl⟩ := List.mem_map.mp hv
    exact vc_ker h hn (mem_free.mp hc).1
def kerB (n : Nat) (rows : List Nat) (x : Nat) : Bool := rows.all fun r => !(dot n r x)
theorem kerB_iff {n : Nat} {rows : List Nat} {x : Nat} (h : x < 2 ^ n) : kerB n rows x = true ↔ Ker n rows x := by
  unfold kerB Ker
  rw [List.all_eq_true]
  constructor
  · intro z; exact ⟨h, fun r hr => by simpa using z r hr⟩
  · intro z r hr; simp [z.2 r hr]
def kerL (n : Nat) (rows : List Nat) : List Nat := (List.range (2 ^ n)).filter (kerB n rows)
theorem kerL_sp {n : Nat} {rows : List Nat} {v : Nat} : Sp (kerL n rows) v ↔ Ker n rows v := by
  constructor
  · intro h
    refine Ker.sp (fun x hx => ?_) h
    have := List.mem_filter.mp hx
    exact (kerB_iff (List.mem_range.mp this.1)).mp this.2
  · intro h
    exact Sp.mem (List.mem_filter.mpr ⟨List.mem_range.mpr h.1, (kerB_iff h.1).mpr h⟩)
theorem kerL_lt {n : Nat} {rows : List Nat} : ∀ x ∈ kerL n rows, x < 2 ^ n := fun x hx => List.mem_range.mp (List.mem_filter.mp hx).1
theorem kerL_length {n : Nat} {rows : List Nat} : (kerL n rows).length ≤ 2 ^ n := by
  have := List.length_filter_le (kerB n rows) (List.range (2 ^ n))
  rwa [List.length_range] at this
theorem RED.at {R C : List Nat} (h : RED R C) : ∀ i, (hi : i < R.length) → ∃ hc : i < C.length, R[i].testBit C[i] = true ∧ ∀ b, b < C[i] → R[i].testBit b = false := by
  induction R generalizing C with
  | nil => intro i hi; simp at hi
  | cons r R ih => cases C with
    | nil => exact h.elim
    | cons c C =>
      intro i hi
      cases i with
      | zero => exact ⟨by simp, h.1, h.2.1⟩
      | succ i =>
        obtain ⟨hc, a, b⟩ := ih h.2.2.2 i (by simpa using hi)
        exact ⟨by simpa using hc, a, b⟩
/-- the places of a list, as bits -/
def orC : List Nat → Nat → Nat
  | [], a => a
  | d :: C, a => orC C (a ||| 2 ^ d)
theorem orC_bit : ∀ (C : List Nat) (a b : Nat), (orC C a).testBit b = (a.testBit b || C.contains b)
  | [], a, b => by simp [orC]
  | d :: C, a, b => by
    rw [orC, orC_bit C, Nat.testBit_or, Nat.testBit_two_pow, List.contains_cons]
    have : (b == d) = decide (d = b) := by
      by_cases e : d = b
      · simp [e]
      · simp [e, Ne.symm e]
    rw [this, Bool.or_assoc]
theorem orC_lt {n : Nat} : ∀ (C : List Nat) (a : Nat), (∀ d ∈ C, d < n) → a < 2 ^ n → orC C a < 2 ^ n
  | [], a, _, ha => ha
  | d :: C, a, h, ha => orC_lt C _ (fun e he => h e (by simp [he])) (Nat.or_lt_two_pow ha (Nat.pow_lt_pow_right (by omega) (h d (by simp))))
/-- what the rows with the place c add to a -/
def orV (c : Nat) : List Nat → List Nat → Nat → Nat
  | r :: R, d :: C, a => orV c R C (if r.testBit c = true then a ||| 2 ^ d else a)
  | _, _, a => a
theorem or_xor {a d : Nat} (h : a.testBit d = false) : a ||| 2 ^ d = a ^^^ 2 ^ d := by
  apply Nat.eq_of_testBit_eq
  intro i
  rw [Nat.testBit_or, Nat.testBit_xor, Nat.testBit_two_pow]
  by_cases e : d = i
  · subst e; simp [h]
  · simp [e]
theorem orV_eq {c : Nat} : ∀ {R C : List Nat}, RED R C → ∀ a, (∀ d ∈ C, a.testBit d = false) → orV c R C a = a ^^^ lc c R C
  | r :: R, d :: C, h, a, ha => by
    rw [orV, lc]
    have hd : a.testBit d = false := ha d (by simp)
    by_cases e : r.testBit c = true
    · rw [if_pos e, if_pos e, or_xor hd, orV_eq h.2.2.2, Nat.xor_assoc]
      intro x hx
      rw [Nat.testBit_xor, ha x (by simp [hx]), Nat.testBit_two_pow]
      have := (h.2.2.1 x hx).1
      have : d ≠ x := by omega
      simp [this]
    · rw [if_neg e, if_neg e, orV_eq h.2.2.2 a fun x hx => ha x (by simp [hx]), Nat.zero_xor]
  | [], [], _, a, _ => by simp [orV, lc]
  | [], _ :: _, h, _, _ => h.elim
  | _ :: _, [], h, _, _ => h.elim
theorem orV_vc {c : Nat} {R C : List Nat} (h : RED R C) (hc : c ∉ C) : orV c R C (2 ^ c) = vc R C c := by
  rw [orV_eq h]
  · rfl
  · intro d hd
    rw [Nat.testBit_two_pow]
    have : c ≠ d := fun e => hc (e ▸ hd)
    simp [this]
/-- the free places below c, in order -/
theorem free_succ (n : Nat) (C : List Nat) : free (n + 1) C = free n C ++ (if C.contains n = true then [] else [n]) := by
  unfold free
  rw [List.range_succ, List.filter_append]
  congr 1
  by_cases h : n ∈ C
  · simp [h]
  · simp [h]
theorem free_length_le (n : Nat) (C : List Nat) : (free n C).length ≤ n := by
  have := List.length_filter_le (fun c => !C.contains c) (List.range n)
  rwa [List.length_range] at this
end Go.Proofs.Ytbaicdgkpnbipaa.P
end
section
namespace Go.Proofs.Ytbaicdgkpnbipaa.P
open Go.RowKit Go.Proofs.YtbaicdgkpnbipaaW.PrintWords Go.Proofs.YtbaicdgkpnbipaaW.PrintLast Go.Proofs.YtbaicdgkpnbipaaW.PrintMore
set_option linter.unusedVariables false
theorem and_one {x : Nat} (hx : x < 9223372036854775808) : Go.bits .and .i64 (x : Int) 1 = if x.testBit 0 = true then 1 else 0 := by
  have := band (a := x) (b := 1) hx (by omega)
  rw [show ((1 : Nat) : Int) = 1 from rfl] at this
  rw [this, Nat.and_one_is_mod, Nat.testBit_zero]
  rcases Nat.mod_two_eq_zero_or_one x with w | w <;> rw [w] <;> simp
theorem bool_xor (a b : Bool) : Go.bits .xor .i64 (if a = true then 1 else 0 : Int) (if b = true then 1 else 0 : Int) = if (xor a b) = true then 1 else 0 := by
  cases a <;> cases b <;> rfl
theorem s_prod_loop : ∀ (n x : Nat) (b : Bool), n ≤ 62 → x < 2 ^ n → qan.l0d (if b = true then 1 else 0 : Int) (x : Int) = some (if (xor b (par n x)) = true then 1 else 0)
  | 0, x, b, _, h => by
    have : x = 0 := by simpa using h
    subst this
    rw [qan.l0d_eq, if_neg (by decide), par, Bool.xor_false]
  | n + 1, x, b, hn, h => by
    have h62 := small62 (n := n + 1) (by omega) h
    by_cases c : 0 < x
    · have e : wrap64 (Int.tdiv (x : Int) 2) = ((x / 2 : Nat) : Int) := by
        have e : Int.tdiv (x : Int) 2 = ((x / 2 : Nat) : Int) := (Int.ofNat_tdiv x 2).symm
        rw [e, wr (by omega) (by omega)]
      have h2 : x / 2 < 2 ^ n := by rw [Nat.pow_succ] at h; omega
      rw [qan.l0d_eq, if_pos (by omega), and_one h62, bool_xor, e, s_prod_loop n (x / 2) _ (by omega) h2, par, Bool.xor_assoc]
    · have : x = 0 := by omega
      subst this
      rw [qan.l0d_eq, if_neg (by decide), par_zero, Bool.xor_false]
theorem s_prod_v {n a b : Nat} (hn : n ≤ 62) (ha : a < 2 ^ n) (hb : b < 2 ^ n) : qan.d (a : Int) (b : Int) = some (if dot n a b = true then 1 else 0) := by
  have := s_prod_loop n (a &&& b) false hn (Nat.and_lt_two_pow a hb)
  rw [qan.d_eq, band (small62 (by omega) ha) (small62 (by omega) hb)]
  simp only [Bool.false_xor, Bool.false_eq_true, if_false] at this
  exact this
theorem s_right_v {N x : Nat} (hN : N ≤ 10) (hx : x < 2 ^ N) {ln : List Nat} (hl : ln.length ≤ 1000) (hb : ∀ r ∈ ln, r < 2 ^ N) (acc : List Int) (ha : acc.length < 17592186044416) :
    qag.l1d (N : Int) (up ln) acc (x : Int) true 0 = qag.l0d (N : Int) (up ln) (if kerB N ln x = true then acc ++ [(x : Int)] else acc) ((x + 1 : Nat) : Int) := by
  have hx10 := lt_mono hx hN
  have key : ∀ i, i ≤ ln.length → qag.l1d (N : Int) (up ln) acc (x : Int) true (i : Int) = qag.l0d (N : Int) (up ln) (if kerB N (ln.drop i) x = true then acc ++ [(x : Int)] else acc) ((x + 1 : Nat) : Int) := by
    apply down
    · rw [qag.l1d_eq, if_neg (by rw [up_length]; omega), if_pos rfl, if_pos ha, wrS (n := 1024) (by omega) (by omega), List.drop_length, if_pos (by rfl)]
    · intro i hi e
      rw [qag.l1d_eq, if_pos (by rw [up_length]; omega), if_pos rfl, if_pos (by omega), up_get hi, s_prod_v (n := N) (by omega) (hb _ (List.getElem_mem hi)) hx, bind_some', wrS hi (by omega), List.drop_eq_getElem_cons hi]
      by_cases c : dot N ln[i] x = true
      · have k : kerB N (ln[i] :: ln.drop (i + 1)) x = false := by unfold kerB; rw [List.all_cons, c]; rfl
        rw [if_pos c, k, if_neg (by decide), show ((1 : Int) == 0) = false from rfl, qag.l1d_eq]
        by_cases z : i + 1 < ln.length
        · rw [if_pos (by rw [up_length]; omega), if_neg (by decide), wrS (n := 1024) (by omega) (by omega)]
        · rw [if_neg (by rw [up_length]; omega), if_neg (by decide), wrS (n := 1024) (by omega) (by omega)]
      · have c' := Bool.eq_false_iff.mpr c
        have k : kerB N (ln[i] :: ln.drop (i + 1)) x = kerB N (ln.drop (i + 1)) x := by unfold kerB; rw [List.all_cons, c']; rfl
        rw [if_neg c, k, show ((0 : Int) == 0) = true from rfl, e]
  have := key 0 (by omega)
  rwa [List.drop_zero] at this
theorem kerL_take (N : Nat) (ln : List Nat) (x : Nat) : (List.range (x + 1)).filter (kerB N ln) = (List.range x).filter (kerB N ln) ++ (if kerB N ln x = true then [x] else []) := by
  rw [List.range_succ, List.filter_append]
  congr 1
  by_cases h : kerB N ln x = true
  · simp [h]
  · simp [h]
theorem s_kernel_v {N : Nat} (hN : N ≤ 10) {ln : List Nat} (hl : ln.length ≤ 1000) (hb : ∀ r ∈ ln, r < 2 ^ N) :
    qag.d (N : Int) (up ln) = (qaa.d (N : Int) (up (kerL N ln))).bind fun t => some ((N : Int), t) := by
  have h10 : 2 ^ N ≤ 2 ^ 10 := Nat.pow_le_pow_right (by omega) hN
  have key : ∀ x, x ≤ 2 ^ N → qag.l0d (N : Int) (up ln) (up ((List.range x).filter (kerB N ln))) (x : Int) = (qaa.d (N : Int) (up (kerL N ln))).bind fun t => some ((N : Int), t) := by
    apply down
    · rw [qag.l0d_eq, u64_id (by omega) (by omega), if_pos (by omega), one_shl (by omega), if_neg (by omega)]; rfl
    · intro x hx e
      have hlen : ((List.range x).filter (kerB N ln)).length ≤ x := by
        have := List.length_filter_le (kerB N ln) (List.range x)
        rwa [List.length_range] at this
      rw [qag.l0d_eq, u64_id (by omega) (by omega), if_pos (by omega), one_shl (by omega), if_pos (by omega), s_right_v hN hx hl hb _ (by rw [up_length]; omega), ← e, kerL_take]
      congr 1
      by_cases k : kerB N ln x = true
      · rw [if_pos k, if_pos k, up_append]; rfl
      · rw [if_neg k, if_neg k, List.append_nil]
  rw [qag.d_eq]
  exact key 0 (Nat.zero_le _)
theorem i_lead_v {r d : Nat} (hr : r < 4611686018427387904) (hd : d ≤ 61) (h : r.testBit d = true) (hlow : ∀ b, b < d → r.testBit b = false) : qaw.d (r : Int) = some (d : Int) := by
  have key : ∀ i, i ≤ d → qaw.l0d (r : Int) (i : Int) = some (d : Int) := by
    apply down
    · rw [qaw.l0d_eq, if_pos (by omega), bit_test (by omega) (by omega), if_pos h, if_neg (by decide)]
    · intro i hi e
      rw [qaw.l0d_eq, if_pos (by omega), bit_test (by omega) (by omega), if_pos (by rw [hlow i hi]; rfl), wrS hi (by omega), e]
  rw [qaw.d_eq]
  exact key 0 (by omega)
theorem i_leads_v {N : Nat} (hN : N ≤ 60) {R C : List Nat} (h : RED R C) (hl : R.length ≤ 60) (hR : ∀ r ∈ R, r < 2 ^ N) (hC : ∀ d ∈ C, d < N) (x : Int) (l : List Int) :
    qae.l0d (up R) 0 (up R) ((up R).length : Int) 0 x l = qae.l1d (up R) ((orC C 0 : Nat) : Int) x 0 x [] := by
  have hlen := h.len
  have key : ∀ i, i ≤ R.length → ∀ a : Nat, a < 2 ^ N → qae.l0d (up R) (a : Int) (up R) ((up R).length : Int) (i : Int) x l = qae.l1d (up R) ((orC (C.drop i) a : Nat) : Int) x 0 x [] := by
    apply down
    · intro a ha
      rw [qae.l0d_eq, if_neg (by rw [up_length]; omega), hlen, List.drop_length]; rfl
    · intro i hi ih a ha
      obtain ⟨hc, b1, b2⟩ := h.at i hi
      have hd := hC _ (List.getElem_mem hc)
      have hp : 2 ^ C[i] < 2 ^ N := Nat.pow_lt_pow_right (by omega) hd
      have a63 := small62 (by omega) ha
      have p63 := small62 (by omega) hp
      have r62 : R[i] < 4611686018427387904 := Nat.lt_of_lt_of_le (hR _ (List.getElem_mem hi)) (Nat.le_trans (Nat.pow_le_pow_right (by omega) (show N ≤ 62 by omega)) (by decide))
      rw [qae.l0d_eq, if_pos (by rw [up_length]; omega), if_pos (by omega), if_pos (by rw [up_length]; omega), up_get hi, i_lead_v r62 (by omega) b1 b2, bind_some', if_pos (by omega), one_shl (by omega), bor a63 p63, wrS hi (by omega),
        ih _ (Nat.or_lt_two_pow ha hp), List.drop_eq_getElem_cons hc]; rfl
  have := key 0 (by omega) 0 (Nat.two_pow_pos N)
  rwa [List.drop_zero] at this
theorem i_row_v {N c : Nat} (hN : N ≤ 60) {R C : List Nat} (h : RED R C) (hl : R.length ≤ 60) (hR : ∀ r ∈ R, r < 2 ^ N) (hC : ∀ d ∈ C, d < N) (hc : c < N) (L : Int) (acc : List Int) (ha : acc.length < 17592186044416) :
    qae.l2d (up R) L (c : Int) ((2 ^ c : Nat) : Int) (N : Int) (c : Int) (up R) ((up R).length : Int) 0 (N : Int) acc = qae.l1d (up R) L (N : Int) ((c + 1 : Nat) : Int) (N : Int) (acc ++ [((orV c R C (2 ^ c) : Nat) : Int)]) := by
  have hlen := h.len
  have key : ∀ i, i ≤ R.length → ∀ a : Nat, a < 2 ^ N → qae.l2d (up R) L (c : Int) (a : Int) (N : Int) (c : Int) (up R) ((up R).length : Int) (i : Int) (N : Int) acc = qae.l1d (up R) L (N : Int) ((c + 1 : Nat) : Int) (N : Int) (acc ++ [((orV c (R.drop i) (C.drop i) a : Nat) : Int)]) := by
    apply down
    · intro a _
      rw [qae.l2d_eq, if_neg (by rw [up_length]; omega), if_pos ha, wrS (n := 60) (by omega) (by omega), List.drop_length, orV]
      intro _ _ _ _ e _; cases e
    · intro i hi ih a ha2
      obtain ⟨hci, b1, b2⟩ := h.at i hi
      have hd := hC _ (List.getElem_mem hci)
      have hp : 2 ^ C[i] < 2 ^ N := Nat.pow_lt_pow_right (by omega) hd
      have a63 := small62 (by omega) ha2
      have p63 := small62 (by omega) hp
      have r62 : R[i] < 4611686018427387904 := Nat.lt_of_lt_of_le (hR _ (List.getElem_mem hi)) (Nat.le_trans (Nat.pow_le_pow_right (by omega) (show N ≤ 62 by omega)) (by decide))
      rw [qae.l2d_eq, if_pos (by rw [up_length]; omega), if_pos (by omega), if_pos (by rw [up_length]; omega), if_pos (by omega), up_get hi, bit_test (by omega) (by omega), List.drop_eq_getElem_cons hi, List.drop_eq_getElem_cons hci, orV, wrS hi (by omega)]
      by_cases e : R[i].testBit c = true
      · rw [if_pos e, if_pos rfl, if_pos e, i_lead_v r62 (by omega) b1 b2, bind_some', if_pos (by omega), one_shl (by omega), bor a63 p63, ih _ (Nat.or_lt_two_pow ha2 hp)]
      · rw [if_neg e, if_neg (by decide), if_neg e, ih _ ha2]
  have := key 0 (by omega) (2 ^ c) (Nat.pow_lt_pow_right (by omega) hc)
  rwa [List.drop_zero, List.drop_zero] at this
theorem i_kernel_v {N : Nat} (hN : N ≤ 60) {ln R C : List Nat} (e : qaf.d (up ln) = some (up R)) (h : RED R C) (hl : R.length ≤ 60) (hR : ∀ r ∈ R, r < 2 ^ N) (hC : ∀ d ∈ C, d < N) :
    qae.d (N : Int) (up ln) = qa2.d (N : Int) (up ((free N C).map (vc R C))) := by
  rw [qae.d_eq, e, bind_some', i_leads_v hN h hl hR hC]
  have lb : orC C 0 < 2 ^ N := orC_lt C 0 hC (Nat.two_pow_pos N)
  have l63 := small62 (by omega) lb
  have key : ∀ c, c ≤ N → qae.l1d (up R) ((orC C 0 : Nat) : Int) (N : Int) (c : Int) (N : Int) (up ((free c C).map (vc R C))) = qa2.d (N : Int) (up ((free N C).map (vc R C))) := by
    apply down
    · rw [qae.l1d_eq, if_neg (by omega)]
      cases qa2.d (N : Int) (up ((free N C).map (vc R C))) <;> rfl
    · intro c hc ih
      have fl := free_length_le c C
      rw [qae.l1d_eq, if_pos (by omega), if_pos (by omega), bit_test l63 (by omega), orC_bit, Nat.zero_testBit, Bool.false_or]
      by_cases z : C.contains c = true
      · rw [if_pos z, if_pos rfl, wrS hc (by omega), ← ih, free_succ, if_pos z, List.append_nil]
      · have z' : c ∉ C := by simpa using z
        rw [if_neg z, if_neg (by decide), one_shl (by omega), i_row_v hN h hl hR hC hc _ _ (by rw [up_length, List.length_map]; omega), ← ih, free_succ, if_neg z, orV_vc h z', List.map_append, up_append]; rfl
  have := key 0 (by omega)
  exact this
theorem kernel_v {N : Nat} (hN : N ≤ 10) {ln : List Nat} (hl : ln.length ≤ 1000) (hb : ∀ r ∈ ln, r < 2 ^ N) :
    ∃ K C, qag.d (N : Int) (up ln) = some ((N : Int), up K) ∧ qae.d (N : Int) (up ln) = some ((N : Int), up K) ∧ RED K C ∧ (∀ v, Sp K v ↔ Ker N ln v) ∧ (∀ x ∈ K, x < 2 ^ N) ∧ K.length ≤ N ∧ ∀ d ∈ C, d < N := by
  obtain ⟨R, C, e1, e2, hR, hs, hRb, hRl, hC⟩ := ech_v (N := N) (by omega) (ln := ln) (by omega) hb
  have h10 : 2 ^ N ≤ 2 ^ 10 := Nat.pow_le_pow_right (by omega) hN
  have vlt : ∀ x ∈ (free N C).map (vc R C), x < 2 ^ N := by
    intro x hx
    obtain ⟨c, hc, rfl⟩ := List.mem_map.mp hx
    exact (vc_ker hR hC (mem_free.mp hc).1).1
  obtain ⟨K, D, f1, f2, hK, ks, kb, kl, kd⟩ := ech_v (N := N) (by omega) (ln := (free N C).map (vc R C)) (by have := free_length_le N C; rw [List.length_map]; omega) vlt
  obtain ⟨K', D', g1, g2, hK', ks', _, _, _⟩ := ech_v (N := N) (by omega) (ln := kerL N ln) (by have := kerL_length (n := N) (rows := ln); omega) kerL_lt
  have sp : ∀ v, Sp K v ↔ Ker N ln v := fun v => (ks v).trans ((ker_sp hR hC).symm.trans (Ker.of_sp hs))
  have e := (hK.unique hK' fun v => (sp v).trans (kerL_sp.symm.trans (ks' v).symm)).1
  subst e
  refine ⟨K, D, ?_, ?_, hK, sp, kb, kl, kd⟩
  · rw [s_kernel_v hN hl hb, g1, bind_some']
  · rw [i_kernel_v (by omega) e2 hR (by omega) hRb hC, qa2.d_eq, f2, bind_some']
theorem MeetOf_both (c : Int) {l : List Int} (d : Int) {k : List Int} (hl : l.length ≤ 1048576) (hk : k.length ≤ 1048576) :
    ∃ r : Int × List Int × Int, (r.2.1.length ≤ 17592186044416) ∧ qa4.d c l d k = some r ∧ qaz.d c l d k = some r := by
  have q1 := s_both_v c (l := l) d (k := k) (by omega) (by omega)
  have q2 := i_both_v c (l := l) d (k := k) (by omega) (by omega)
  by_cases h : bothCode c l d k = 0
  · obtain ⟨N, R, C, R', C', rfl, rfl, _, hN, rfl, rfl, hl1, hl2, hb1, hb2, hR1, hR2⟩ := both_up h
    obtain ⟨K, D, a1, a2, _, _, kb, kl, _⟩ := kernel_v hN (ln := R) (by omega) hb1
    obtain ⟨K', D', b1, b2, _, _, kb', kl', _⟩ := kernel_v hN (ln := R') (by omega) hb2
    obtain ⟨T, E, s1, s2, _, _, tb, tl, _⟩ := sum_v (N := N) (by omega) (u := K) (v := K') (N : Int) (by omega) (by omega) kb kb'
    obtain ⟨S, F, e1, e2, _, _, _, sl, _⟩ := kernel_v hN (ln := T) (by omega) tb
    refine ⟨((N : Int), up S, 0), by show (up S).length ≤ _; rw [up_length]; omega, ?_, ?_⟩
    · rw [qa4.d_eq, q1, bind_some', if_pos h, qa1.d_eq, a1, bind_some', b1, bind_some', s1, bind_some', e1, bind_some', bind_some']
    · rw [qaz.d_eq, q2, bind_some', if_pos h, qa5.d_eq, a2, bind_some', b2, bind_some', s2, bind_some', e2, bind_some', bind_some']
  · refine ⟨(0, [], bothCode c l d k), by simp, ?_, ?_⟩
    · rw [qa4.d_eq, q1, bind_some', if_neg h]
    · rw [qaz.d_eq, q2, bind_some', if_neg h]
theorem MeetOf_law (c : Int) (l : List Int) (d : Int) (k : List Int) (h1 : l.length ≤ maxLen) (h4 : k.length ≤ maxLen) : qab.d c l d k = some true := by
  by_cases hl_all : ¬ (l.length ≤ 1048576 ∧ k.length ≤ 1048576 ∧ l.length + k.length ≤ 1048576)
  · by_cases z_l : l.length ≤ 1048576 <;> by_cases z_k : k.length ≤ 1048576 <;> first
    | (exfalso; omega)
    | (skip
       repeat' (first
         | with_reducible exact rfl
         | dsimp only
         | with_reducible refine bind_ok (eqInt64S_self (by omega)) ?_
         | with_reducible refine bind_ok (toInt64S_v (by omega)) ?_
         | with_reducible refine bind_ok (szInt64S_in (by omega) (by omega)) ?_
         | with_reducible refine bind_ok (szInt64S_out (by omega) (by omega) (by assumption)) ?_
         | with_reducible refine bind_ok (heldInt64S_v (by omega) (by omega) (by omega)) ?_
         | with_reducible refine bind_ok (markInt64S_v (by omega) (by omega) (by omega)) ?_
         | with_reducible refine some_bind_ok ?_
         | with_reducible refine ite_bind_t (by first | with_reducible exact rfl | omega) ?_
         | with_reducible refine ite_bind_f (by first | omega | decide | (simp; done)) ?_
         | with_reducible refine bind_assoc_ok ?_
         | with_reducible refine ite_t (by first | with_reducible exact rfl | omega) ?_
         | with_reducible refine ite_f (by first | omega | decide | (simp; done)) ?_
         | rw [qab.j0d_eq]
         | rw [qab.j1d_eq]
         | rw [qab.j2d_eq]
         | rw [qab.d_eq]
         | rw [qak.d_eq]
         | rw [qaj.d_eq]
         | unfold qa9.f
         | rw [qax.d_eq]
         | rw [qaq.d_eq]
         )
       done)
  obtain ⟨hl_l, hl_k, hl_sum⟩ := Classical.not_not.mp hl_all
  have key : ∃ r : Int × List Int × Int, (r.2.1.length ≤ 17592186044416) ∧ qa4.d c l d k = some r ∧ qaz.d c l d k = some r := by
    exact MeetOf_both c d hl_l hl_k
  obtain ⟨r, hb, hS, hI⟩ := key
  obtain ⟨r0, r1, r2⟩ := r
  simp only at hb
  repeat' (first
    | with_reducible exact rfl
    | dsimp only
    | refine bind_ok hS ?_
    | refine bind_ok hI ?_
    | with_reducible refine bind_ok (eqInt64S_self (by omega)) ?_
    | with_reducible refine bind_ok (toInt64S_v (by omega)) ?_
    | with_reducible refine bind_ok (szInt64S_in (by omega) (by omega)) ?_
    | with_reducible refine bind_ok (szInt64S_out (by omega) (by omega) (by assumption)) ?_
    | with_reducible refine bind_ok (heldInt64S_v (by omega) (by omega) (by omega)) ?_
    | with_reducible refine bind_ok (markInt64S_v (by omega) (by omega) (by omega)) ?_
    | with_reducible refine some_bind_ok ?_
    | with_reducible refine ite_bind_t (by first | with_reducible exact rfl | omega) ?_
    | with_reducible refine ite_bind_f (by first | omega | decide | (simp; done)) ?_
    | with_reducible refine bind_assoc_ok ?_
    | with_reducible refine ite_t (by first | with_reducible exact rfl | omega) ?_
    | with_reducible refine ite_f (by first | omega | decide | (simp; done)) ?_
    | rw [qab.j0d_eq]
    | rw [qab.j1d_eq]
    | rw [qab.j2d_eq]
    | rw [qab.d_eq]
    | rw [qak.d_eq]
    | rw [qaj.d_eq]
    | unfold qa9.f
    | rw [qax.d_eq]
    | rw [qaq.d_eq]
    )
end Go.Proofs.Ytbaicdgkpnbipaa.P
end
section
namespace Go.Proofs.Ytbaicdgkpnbipaa.P
open Go.RowKit Go.Proofs.YtbaicdgkpnbipaaW.PrintWords Go.Proofs.YtbaicdgkpnbipaaW.PrintLast Go.Proofs.YtbaicdgkpnbipaaW.PrintMore
/-- The one pure statement of qab. -/
def qab.Pure : Prop := ∀ (a0_0 : Int) (l0_1 : List Int) (a1_0 : Int) (l1_1 : List Int), ((Lit.int .i64 a0_0).wf = true) → (l0_1.length ≤ maxLen) → (∀ x ∈ l0_1, (Lit.int .i64 x).wf = true) → ((Lit.int .i64 a1_0).wf = true) → (l1_1.length ≤ maxLen) → (∀ x ∈ l1_1, (Lit.int .i64 x).wf = true) → ∃ k, qab.f k a0_0 l0_1 a1_0 l1_1 = some true
end Go.Proofs.Ytbaicdgkpnbipaa.P
end
section
namespace Go.Proofs.Ytbaicdgkpnbipaa.Pure
theorem FnExactMeetOf : P.qab.Pure := fun a0_0 l0_1 a1_0 l1_1 _ h1_ _ _ h4_ _ => P.IsLim.some_ (P.qab.lim a0_0 l0_1 a1_0 l1_1) (P.MeetOf_law a0_0 l0_1 a1_0 l1_1 h1_ h4_)
end Go.Proofs.Ytbaicdgkpnbipaa.Pure
end
