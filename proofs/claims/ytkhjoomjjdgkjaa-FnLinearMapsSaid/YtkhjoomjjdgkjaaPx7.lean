/- Functions of the program and what they tell, as the printing program wrote it. -/
import Derived.Test.YtkhjoomjjdgkjaaPx0
namespace Go.Proofs.Ytkhjoomjjdgkjaa.P
open Go.Shelf Go.RowKit Go.Proofs.YtkhjoomjjdgkjaaW.PrintWords Go.Proofs.YtkhjoomjjdgkjaaW.PrintLast Go.Proofs.YtkhjoomjjdgkjaaW.PrintMore
attribute [local go_sem] max2_int min2_int max_two min_two max_three min_three max_four min_four
set_option linter.unusedVariables false
set_option linter.unusedSimpArgs false
set_option maxHeartbeats 2000000
set_option maxRecDepth 100000
def slices_Clone_int64_int64.f (l0 : List Int) : Option (List Int) := if l0.length ≤ 17592186044416 then some l0 else none
theorem slices_Clone_int64_int64.calls (A0 : Option Addr) (c0 : Nat) (l0 : List Int) (r : List Int) (w : World) (hr0 : Kd.C (Kd.int .i64) w A0 l0.length l0) (hc0 : l0.length ≤ c0) (h : slices_Clone_int64_int64.f l0 = some r) :
 Calls Try.prog 91 #[.slice A0 l0.length c0] w fun e w' => ∃ v0_ : Value, e = .returned (v0_) ∧ Kd.R (Kd.int .i64) 2 w' w.heap.size (fun _ => True) v0_ r ∧ Below w.heap.size w w' := by
 have hn := hr0.2.1
 unfold slices_Clone_int64_int64.f at h
 split at h
 case isFalse => cases h
 rename_i hb
 obtain rfl := Option.some.inj h
 have u22 : ∀ w, Sem.run Try.prog (underlying 24) w = .ok (TypeDesc.slice 2) w := run_underlying Try.underlying24
 cases hA : A0 with
 | none =>
  have hl : l0.length = 0 := by
   rcases Nat.eq_zero_or_pos l0.length with h0 | h0
   ·exact h0
   obtain ⟨ad, e, _⟩ := hr0.2.2 h0
   rw [hA] at e; cases e
  have hl0 : l0 = [] := List.length_eq_zero_iff.1 hl
  subst hl0
  have q22 : ∀ (w : World) (n c n' c' : Nat), (binOp .eql 24 (.slice none n c) (.slice none n' c')).run Try.prog w = .ok (.bool true) w := fun w n c n' c' => Lib.run_eql_slice_nil w _ _ none n c n' c' Try.underlying24
  clear hr0 hA hc0 hn hb h hl
  go_enter Try.func91, Try.ntmps91
  go_wp2
  go_ret
  exact ⟨_, rfl, Kd.R_nil _ _ _ _ _, Below.refl _ _⟩
 | some ad =>
  subst hA
  have q22 : ∀ (w : World) (n c n' c' : Nat), (binOp .eql 24 (.slice (some ad) n c) (.slice none n' c')).run Try.prog w = .ok (.bool false) w := fun w n c n' c' => Lib.run_eql_slice_nil w _ _ (some ad) n c n' c' Try.underlying24
  have HC := Aq.mk (show ∀ j u, (encs (Value.int .i64) l0)[j]? = some u → w.cell? (ad.add j) = some u from fun j u hj => by
   simp only [encs, List.getElem?_map] at hj
   obtain ⟨x, hx, rfl⟩ := Option.map_eq_some_iff.1 hj
   have hlt := (List.getElem?_eq_some_iff.1 hx).1
   obtain ⟨ad', e, hcell⟩ := Kd.at_int hr0 (j : Int) (by omega) (by omega)
   cases e
   rw [rd_at l0 j hlt, Int.toNat_natCast] at hcell
   rw [hcell, ← (List.getElem?_eq_some_iff.1 hx).2])
  obtain ⟨i0, hi, hz0, hz1, hz2⟩ := info_parts (show (Try.prog.info? 2).map (fun i => (i.zero, i.size, i.bytes)) = some (some (.int .i64 0), 1, 8) by kernel_rfl)
  have HN := Aq.mk hb
  have HR := Aq.mk (show (encs (Value.int .i64) l0).length = l0.length by simp [encs])
  clear hr0 hc0 hb h
  generalize hm : l0.length = m at hn HN HR
  have HM := Aq.mk hm
  clear hm
  go_enter Try.func91, Try.ntmps91
  go_wp2_with (at_builtin; refine wpList_append_own _ rfl _ _ 24 rfl w.heap.size 2 i0 (.int .i64 0) 1 8 Try.underlying24 hi hz0 hz1 hz2 rfl (by decide) _ _ _ rfl (World.ownsRow_made w #[] 0 (Nat.le_refl _) (Nat.zero_le _) (by simp)) ad m c0 (encs (Value.int .i64) l0) rfl ?qc1 ?qc2 ?qc3 ?qc4 ?qc5 ?qc6 ?_)
  case qc1 => rw [HR.out]; omega
  case qc2 =>
   intro j u hj
   exact Lib.cell?_alloc_some _ (HC.out j u hj)
  case qc3 =>
   intro u hu
   simp only [encs, List.mem_map] at hu
   obtain ⟨x, _, rfl⟩ := hu
   rfl
  case qc4 => rw [Nat.zero_add]; exact hn
  case qc5 => have := HN.out; omega
  case qc6 => simp
  intro v' w1 hown hgrow hnil
  have HO := Aq.mk hown
  have HG := Aq.mk hgrow
  clear hown hgrow hnil
  go_wp2
  go_ret
  refine ⟨v', rfl, ?_, ((Below.refl _ w).alloc (Nat.le_refl _) _).grown HG.out (by simp) (by intro k hk; simp [Value.ownBlock] at hk; omega)⟩
  exact Kd.R_of_own (h1 := fun _ => rfl) (by have h := HO.out; rw [HM.out]; simpa using h) (fun _ _ => trivial)
end Go.Proofs.Ytkhjoomjjdgkjaa.P
