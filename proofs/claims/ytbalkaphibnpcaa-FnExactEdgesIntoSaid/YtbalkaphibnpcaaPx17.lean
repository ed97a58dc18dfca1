/- Functions of the program and what they tell, as the printing program wrote it. -/
import Derived.Test.YtbalkaphibnpcaaPx0
import Derived.Test.YtbalkaphibnpcaaPx4
namespace Go.Proofs.Ytbalkaphibnpcaa.P
open Go.Shelf Go.RowKit Go.Proofs.YtbalkaphibnpcaaW.PrintWords Go.Proofs.YtbalkaphibnpcaaW.PrintLast Go.Proofs.YtbalkaphibnpcaaW.PrintMore
attribute [local go_sem] max2_int min2_int max_two min_two max_three min_three max_four min_four
set_option linter.unusedVariables false
set_option linter.unusedSimpArgs false
set_option maxHeartbeats 8000000
set_option maxRecDepth 100000
def laws_markInt64SS.l0 : Nat → List (List Int) → Int → Int → Option (Int × List (List Int))
  | 0, _, _, _ => none
  | k + 1, x0, x1, x5 => if x5 < (x0.length : Int) then (if 0 ≤ x5 then ((laws_markInt64S.f k (rd_L1 x0 x5) x1).bind fun bt => (laws_markInt64SS.l0 k (x0.set x5.toNat bt.2) bt.1 (wrap64 (x5 + 1)))) else (none)) else (some (x1, x0))
def laws_markInt64SS.f (k : Nat) (l0 : List (List Int)) (a1 : Int) : Option (Int × List (List Int)) := laws_markInt64SS.l0 k l0 a1 0
theorem laws_markInt64SS.mono_l : ∀ k, (∀ y0 y1 y2, LeO (laws_markInt64SS.l0 k y0 y1 y2) (laws_markInt64SS.l0 (k + 1) y0 y1 y2))
 | 0 => fun _ _ _ r h => by simp [laws_markInt64SS.l0] at h
 | k + 1 => by
  have ih0 := laws_markInt64SS.mono_l k
  intro y0 y1 y2
  unfold laws_markInt64SS.l0
  repeat' first
   | (with_reducible first | first | apply ih0 | apply laws_markInt64S.mono | exact LeO.refl _ | exact LeO.none _ | refine LeO.ite ?_ ?_ | refine LeO.bind ?_ (fun _ => ?_))
   | exact LeO.none _
   | refine LeO.ite ?_ ?_
   | refine LeO.bind ?_ (fun _ => ?_)
theorem laws_markInt64SS.mono : ∀ a0 a1 k, LeO (laws_markInt64SS.f k a0 a1) (laws_markInt64SS.f (k + 1) a0 a1) := fun a0 a1 k => laws_markInt64SS.mono_l k a0 a1 0
theorem S_marked {base : Nat} {P0 : Nat → Prop} {A : Option Addr} {n c : Nat} {l : List (List Int)} {W : World} (h : Kd.S (Kd.slice 2 (Kd.int .i64)) 38 W base P0 (.slice A n c) l) {i : Int} (h0 : 0 ≤ i) (h1 : i < n) :
 ∃ ad A1 c1, ∃ oki : Nat → Prop, A = some ad ∧ W.cell? (ad.add i.toNat) = some (.slice A1 (rd_L1 l i).length c1) ∧ Kd.R (Kd.int .i64) 2 W base oki (.slice A1 (rd_L1 l i).length c1) (rd_L1 l i) ∧ (∀ k, oki k → P0 k) ∧
  ∀ (W2 : World) (r2 : List Int), Kept W W2 oki → Kd.R (Kd.int .i64) 2 W2 base (fun k => oki k ∨ W.heap.size ≤ k) (.slice A1 (rd_L1 l i).length c1) r2 → Kd.S (Kd.slice 2 (Kd.int .i64)) 38 W2 base P0 (.slice A n c) (l.set i.toNat r2) := by
 cases A with
 | none =>
  obtain ⟨_, inner, ho, _⟩ := Kd.S_R h
  rcases ho.2 with ⟨hv, _⟩ | ⟨g, cap', cur, hv, _⟩
  ·injection hv with _ e2 _
   omega
  cases hv
 | some ad =>
  obtain ⟨g, rfl⟩ := Kd.R_head (Kd.S_R h)
  obtain ⟨oki, cs, _, hM, hc, hok, hH⟩ := Kd.S_lend h ([] : List Int) i h0 h1
  obtain ⟨v, rfl, hR⟩ := hM
  have hR' : Kd.R (Kd.int .i64) 2 W base oki v (rd_L1 l i) := hR
  obtain ⟨A1, c1, rfl⟩ := Kd.R_slice hR'
  have hc0 := hc 0 _ rfl
  refine ⟨_, A1, c1, oki, rfl, ?_, hR', fun k hk => (hok k hk).1, fun W2 r2 hk hR2 => ?_⟩
  ·have hq : W.cell? ⟨g, i.toNat * 1 + 0, none⟩ = some (.slice A1 (rd_L1 l i).length c1) := hc0
   rw [Nat.mul_one, Nat.add_zero] at hq
   rw [add_plain]
   exact hq
  refine Kd.H_back (Kd.H_kept hH hk (fun k _ hn hs => hn hs)) (okp := fun k => some k = (Value.slice A1 (rd_L1 l i).length c1).ownBlock) ⟨_, rfl, Kd.R_tight rfl hR2⟩ (fun k hk2 => hR'.1 k hk2.symm)
theorem laws_markInt64SS.calls (k : Nat) (P0 : Nat → Prop) (A0 : Option Addr) (c0 : Nat) (l0 : List (List Int)) (a1 r1 : Int) (r2 : List (List Int)) (w0 w : World) (hB : Below w0.heap.size w0 w)
 (ho0 : Kd.S (Kd.slice 2 (Kd.int .i64)) 38 w w0.heap.size P0 (.slice A0 l0.length c0) l0) (h : laws_markInt64SS.f k l0 a1 = some (r1, r2)) :
 Calls Try.prog 16 #[.slice A0 l0.length c0, .int .i64 a1] w fun e w' => e = .returned (.int .i64 r1) ∧ Kd.S (Kd.slice 2 (Kd.int .i64)) 38 w' w0.heap.size P0 (.slice A0 l0.length c0) r2 ∧ r2.length = l0.length ∧ Below w0.heap.size w0 w' ∧ Kept w w' P0 := by
 have HB := Aq.mk hB
 have HO := Aq.mk ho0
 have HK := Aq.mk (Kept.refl w P0)
 have H' := Aq.mk (show laws_markInt64SS.l0 k l0 a1 0 = some (r1, r2) from h)
 clear h ho0 hB
 go_enter Try.func16, Try.ntmps16
 go_wp2
 go_loopg [1, 5] k (fun kq v1 v5 w' => ∃ (x0_1 : List (List Int)) (x1_1 : Int) (x5_1 : Int), v1 = .int .i64 x1_1 ∧ v5 = .int .i64 x5_1 ∧ Aq (x0_1.length = l0.length) ∧ Aq (laws_markInt64SS.l0 kq x0_1 x1_1 x5_1 = some (r1, r2)) ∧ Aq (kq ≤ k) ∧ Aq (Kd.S (Kd.slice 2 (Kd.int .i64)) 38 w' w0.heap.size P0 (.slice A0 l0.length c0) x0_1) ∧ Aq (Below w0.heap.size w0 w') ∧ Aq (Kept w w' P0))
 case atStart => exact ⟨l0, a1, 0, rfl, rfl, ⟨rfl⟩, H', ⟨Nat.le_refl _⟩, HO, HB, HK⟩
 clear H' HO HB HK
 obtain ⟨x0_1, x1_1, x5_1, rfl, rfl, HL, HA, HK1, HO, HB, HK⟩ := hrel
 cases gk with
 | zero => exact absurd HA.out (by simp [laws_markInt64SS.l0])
 | succ k1 =>
  have H := HA.out
  clear HA
  simp only [laws_markInt64SS.l0] at H
  by_cases c3 : x5_1 < (x0_1.length : Int)
  rotate_left
  ·rw [if_neg c3] at H
   rw [HL.out] at c3
   have c3b0 := decide_eq_false c3
   clear c3
   simp only [Option.some.injEq, Prod.mk.injEq] at H
   obtain ⟨rfl, rfl⟩ := H
   go_wp2
   go_ret
   exact ⟨tS, HO.out, HL.out, HB.out, HK.out⟩
  rw [if_pos c3] at H
  rw [HL.out] at c3
  have c3b0 := decide_eq_true c3
  by_cases c4 : 0 ≤ x5_1
  rotate_left
  ·rw [if_neg c4] at H
   exact absurd H (by simp)
  rw [if_pos c4] at H
  have c4b0 := decide_eq_true c4
  obtain ⟨⟨q1, q2⟩, A50, H⟩ := Option.bind_eq_some_iff.mp H
  have H' := Aq.mk (show laws_markInt64SS.l0 k1 (x0_1.set x5_1.toNat q2) q1 (wrap64 (x5_1 + 1)) = some (r1, r2) from H)
  have A5 := Aq.mk A50
  clear H A50
  obtain ⟨ad, A1, c1, oki, rfl, hc, hR, hP, hback⟩ := S_marked HO.out c4 c3
  have HR := Aq.mk hR
  have HP := Aq.mk hP
  have HBK := Aq.mk hback
  have p312 : (0 ≤ x5_1) = True := eq_true c4
  have q312 : (x5_1 < (l0.length : Int)) = True := eq_true c3
  clear hR hP hback c3 c4
  go_wp2_with (first | ((with_reducible refine gQc (f := 25) rfl ?_); refine goesL_ (some 17) rfl rfl Try.func25 (by kernel_rfl) rfl #[.slice A1 (rd_L1 x0_1 x5_1).length c1, .int .i64 x1_1] rfl tL ?_; (with_reducible refine (laws_markInt64S.calls k1 _ _ (rd_L1 x0_1 x5_1) x1_1 q1 q2 w0 _ HB.out HR.out A5.out).mono ?_); rintro e w' ⟨rfl, hr, hb, hk⟩; have n1_ := Aq.mk (HBK.out w' q2 hk hr); have n2_ := Aq.mk hb; have n3_ := Aq.mk (HK.out.then_ hk (fun k_ hk_ => .inl (HP.out k_ hk_))); clear HO HB HK; have HO := n1_; have HB := n2_; have HK := n3_; clear n1_ n2_ n3_ hk hb hr; refine ⟨_, rfl, ?_⟩))
  go_roundg k1
  case measure => have := HK1.out; omega
  case rel => exact ⟨x0_1.set x5_1.toNat q2, q1, wrap64 (x5_1 + 1), rfl, rfl, ⟨by rw [List.length_set]; exact HL.out⟩, H', ⟨by have := HK1.out; omega⟩, HO, HB, HK⟩
end Go.Proofs.Ytbalkaphibnpcaa.P
