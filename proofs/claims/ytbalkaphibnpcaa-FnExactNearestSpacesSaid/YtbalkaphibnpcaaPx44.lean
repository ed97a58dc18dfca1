/- Functions of the program and what they tell, as the printing program wrote it. -/
import Derived.Test.YtbalkaphibnpcaaPx0
import Derived.Test.YtbalkaphibnpcaaPx3
import Derived.Test.YtbalkaphibnpcaaPx23
namespace Go.Proofs.Ytbalkaphibnpcaa.P
open Go.Shelf Go.RowKit Go.Proofs.YtbalkaphibnpcaaW.PrintWords Go.Proofs.YtbalkaphibnpcaaW.PrintLast Go.Proofs.YtbalkaphibnpcaaW.PrintMore
attribute [local go_sem] max2_int min2_int max_two min_two max_three min_three max_four min_four
set_option linter.unusedVariables false
set_option linter.unusedSimpArgs false
attribute [local go_sem] Instr.field asAgg
set_option maxHeartbeats 8000000
set_option maxRecDepth 100000
theorem grow_nil_int (n : Int) (w : World) (h0 : 0 ≤ n) (hb : n ≤ 17592186044415) :
 Calls Try.prog 118 #[.slice none 0 0, .int .i64 n] w fun e w' => ∃ v : Value, e = .returned v ∧ Kd.R (Kd.int .i64) 2 w' w.heap.size (fun _ => True) v [] ∧ Below w.heap.size w w' := by
 have hinfo : (Try.prog.info? 2).map (fun i => (i.zero, i.size, i.bytes)) = some (some (.int .i64 0), 1, 8) := by kernel_rfl
 have u22 : ∀ w, Sem.run Try.prog (underlying 38) w = .ok (TypeDesc.slice 2) w := run_underlying Try.underlying38
 by_cases hn : 0 < n
 rotate_left
 ·have hz : n = 0 := by omega
  subst hz
  clear hinfo hn
  go_enter Try.func118, Try.ntmps118
  go_wp2
  go_ret
  exact ⟨_, rfl, Kd.R_nil _ _ _ _ _, Below.refl _ _⟩
 have hd : decide (0 < n) = true := decide_eq_true hn
 have hng : ¬ n < 0 := by omega
 have HI := Aq.mk hinfo
 clear hinfo
 go_enter Try.func118, Try.ntmps118
 go_wp2_with (at_builtin; refine Kd.R_append_zeros (Kd.int .i64) (w0 := w) w.heap.size rfl (.tmp 20) (.tmp 21) 38 3 2 (.int .i64 0) 8 rfl Try.underlying38 Try.underlying3 HI.out rfl (by decide) (by omega) (.slice none 0 0) [] 0 (kx := .i64) n (fun _ => True) rfl rfl rfl (fun _ _ => trivial) (Kd.R_nil _ _ _ _ _) (by omega) (Below.refl _ _) (Nat.le_refl _) (by simp; omega) ?_)
 intro v1 w1 ho hbw hg hat
 have hl : (List.replicate n.toNat (0 : Int)).length = n.toNat := by simp
 obtain ⟨A1, c1, hv⟩ := Kd.R_slice ho
 rw [hl] at hv
 subst hv
 have HO := Aq.mk ho
 have HB := Aq.mk hbw
 clear ho hbw hg hat hl
 have hlc : n.toNat ≤ c1 := by have := (Kd.R_reads' HO.out).2.1; simpa using this
 go_wp2
 go_ret
 refine ⟨_, rfl, ?_, HB.out⟩
 exact Kd.R_take (m := 0) HO.out (by omega)
def slices_Concat_int64_int64.f (l0 : List (List Int)) : Option (List Int) := if l0.flatten.length ≤ 17592186044415 then some l0.flatten else none
theorem flat_take_succ {α : Type} (l : List (List α)) (k : Nat) (h : k < l.length) : (l.take (k + 1)).flatten = (l.take k).flatten ++ l[k] := by
 rw [List.take_succ_eq_append_getElem h, List.flatten_append]; simp
theorem flat_take_le {α : Type} (l : List (List α)) (k : Nat) : (l.take k).flatten.length ≤ l.flatten.length := by
 have : l.flatten = (l.take k).flatten ++ (l.drop k).flatten := by rw [← List.flatten_append, List.take_append_drop]
 rw [this, List.length_append]; omega
theorem slices_Concat_int64_int64.calls (A0 : Option Addr) (c0 : Nat) (l0 : List (List Int)) (r : List Int) (w : World) (hr0 : Kd.C (Kd.slice 2 (Kd.int .i64)) w A0 l0.length l0) (hc0 : l0.length ≤ c0) (h : slices_Concat_int64_int64.f l0 = some r) :
 Calls Try.prog 115 #[.slice A0 l0.length c0] w fun e w' => ∃ v0_ : Value, e = .returned (v0_) ∧ Kd.R (Kd.int .i64) 2 w' w.heap.size (fun _ => True) v0_ r ∧ Below w.heap.size w w' := by
 have hinfo : (Try.prog.info? 2).map (fun i => (i.zero, i.size, i.bytes)) = some (some (.int .i64 0), 1, 8) := by kernel_rfl
 have HI := Aq.mk hinfo
 clear hinfo
 unfold slices_Concat_int64_int64.f at h
 split at h
 case isFalse => cases h
 rename_i hbig
 obtain rfl := Option.some.inj h
 clear h
 have hn := hr0.2.1
 have HR := Aq.mk hr0
 have HG := Aq.mk hbig
 clear hr0 hbig hc0
 have elem : ∀ (W : World), Below w.heap.size w W → ∀ k (hk : k < l0.length), ∃ ad A c, A0 = some ad ∧ W.cell? (ad.add k) = some (.slice A l0[k].length c) ∧ l0[k].length ≤ c ∧ Kd.C (Kd.int .i64) W A l0[k].length l0[k] := by
  intro W hB k hk
  obtain ⟨ad, c, e, _, hK, hcell⟩ := Kd.C_get (Kd.C_below HR.out hB) [] (k : Int) (by omega) (by omega)
  obtain ⟨A, c', rfl, hl, hC⟩ := hK
  have eg : l0.getD (k : Int).toNat [] = l0[k] := by simp [List.getD_eq_getElem?_getD, hk]
  rw [eg] at hl hC hcell
  refine ⟨ad, A, c', e, ?_, hl, hC⟩
  have := hcell 0 _ rfl
  rw [show (Kd.slice 2 (Kd.int .i64)).sz = 1 from rfl, Nat.mul_one, Nat.add_zero, Int.toNat_natCast] at this
  exact this
 have HE := Aq.mk elem
 clear elem
 go_enter Try.func115, Try.ntmps115
 go_wp2_with fail
 go_loopg [3, 5, 11] l0.length (fun gg s3 _ s11 wr => ∃ kk : Nat, kk ≤ l0.length ∧ l0.length - kk ≤ gg ∧ s3 = .int .i64 ((l0.take kk).flatten.length : Nat) ∧ s11 = .int .i64 kk ∧ Aq (wr = w))
 case atStart => exact ⟨0, Nat.zero_le _, by omega, rfl, rfl, ⟨rfl⟩⟩
 obtain ⟨kk, hkk, hg, rfl, rfl, ⟨hw⟩⟩ := hrel
 subst hw
 by_cases hlt : kk < l0.length
 ·have hltz : (kk : Int) < (l0.length : Int) := by omega
  obtain ⟨ad, A, c, hA, hcell, hlc, _⟩ := HE.out _ (Below.refl _ _) kk hlt
  subst hA
  have b1 := flat_take_le l0 kk
  have b2 := flat_take_le l0 (kk + 1)
  have e2 := flat_take_succ l0 kk hlt
  have b3 : (l0.take kk).flatten.length + l0[kk].length ≤ 17592186044415 := by rw [e2, List.length_append] at b2; have := HG.out; omega
  have E := Aq.mk (show (((l0.take (kk + 1)).flatten.length : Nat) : Int) = ((l0.take kk).flatten.length : Int) + (l0[kk].length : Int) by rw [e2, List.length_append]; omega)
  clear e2 b1 b2
  generalize hm : (l0.take kk).flatten.length = m at b3 E
  generalize hq : l0[kk].length = q at b3 E hcell hlc
  have HM := Aq.mk hm
  clear hm hq
  go_wp2_with fail
  go_roundg (l0.length - (kk + 1))
  case measure => omega
  case rel => exact ⟨kk + 1, by omega, by omega, by rw [E.out], by go_num, ⟨rfl⟩⟩
 have hltz : ¬ (kk : Int) < (l0.length : Int) := by omega
 have : kk = l0.length := by omega
 subst this
 obtain ⟨wo, rfl⟩ : ∃ wo : World, wo = wr := ⟨_, rfl⟩
 have HX := Aq.mk (show l0.flatten.length ≤ 17592186044415 from HG.out)
 have hfull : (l0.take l0.length).flatten.length = l0.flatten.length := by rw [List.take_length]
 rw [hfull]
 have hb := HG.out
 have GN := grow_nil_int (l0.flatten.length : Int) wo (by omega) (by omega)
 have HT := Aq.mk (show l0.flatten.length ≤ 17592186044415 from hb)
 generalize l0.flatten.length = T at GN HT
 have GN' := Aq.mk GN
 clear GN hfull hb
 go_wp2_with fail
 refine GN'.out.mono ?_
 rintro e w1 ⟨v, rfl, ho, hb1⟩
 have HO := Aq.mk ho
 have HB := Aq.mk hb1
 clear ho hb1
 go_wp2_with fail
 go_loopg [6, 8, 27] l0.length (fun gg s6 _ s27 w2 => ∃ (kk : Nat), kk ≤ l0.length ∧ l0.length - kk ≤ gg ∧ s27 = .int .i64 kk ∧ Aq (Kd.R (Kd.int .i64) 2 w2 wo.heap.size (fun _ => True) s6 (l0.take kk).flatten) ∧ Aq (Below wo.heap.size wo w2))
 case atStart => exact ⟨0, Nat.zero_le _, by omega, rfl, HO, HB⟩
 clear HO HB
 obtain ⟨kk, hkk, hg, rfl, HO, HB⟩ := hrel
 by_cases hlt : kk < l0.length
 rotate_left
 ·have hltz : ¬ (kk : Int) < (l0.length : Int) := by omega
  have : kk = l0.length := by omega
  subst this
  have HF := Aq.mk (show Kd.R (Kd.int .i64) 2 wr wo.heap.size (fun _ => True) _ l0.flatten by have := HO.out; rwa [List.take_length] at this)
  clear HO
  go_wp2_with fail
  go_ret
  exact ⟨_, rfl, HF.out, HB.out⟩
 have hltz : (kk : Int) < (l0.length : Int) := by omega
 obtain ⟨ad, A, c, hA, hcell, hlc, hC⟩ := HE.out _ HB.out kk hlt
 subst hA
 have b2 := flat_take_le l0 (kk + 1)
 have e2 := flat_take_succ l0 kk hlt
 have b3 : ((l0.take kk).flatten.length + l0[kk].length) * 8 ≤ 140737488355328 := by rw [e2, List.length_append] at b2; have := HX.out; omega
 have E2 := Aq.mk e2
 have HC := Aq.mk hC
 clear e2 b2 hC
 generalize hq : l0[kk] = row at b3 E2 hcell hlc HC
 clear hq
 have B3 := Aq.mk b3
 clear b3
 go_wp2_with (at_builtin; refine Kd.R_append_rows (Kd.int .i64) (w0 := wo) wo.heap.size rfl (.tmp 31) (.tmp 32) 38 2 (.int .i64 0) 8 rfl Try.underlying38 HI.out rfl (by decide) (by omega) _ (l0.take kk).flatten row _ _ _ (fun _ => True) (fun _ => False) rfl rfl HO.out HC.out (fun _ _ h => h) (fun _ h => h.elim) (fun _ _ => trivial) HB.out HB.out.size B3.out ?_)
 intro v1 w3 ho hb hg hat
 rw [← E2.out] at ho
 have HO2 := Aq.mk ho
 have HB2 := Aq.mk hb
 clear ho hb hg hat
 go_wp2_with fail
 go_roundg (l0.length - (kk + 1))
 case measure => omega
 case rel => exact ⟨kk + 1, by omega, by omega, by go_num, HO2, HB2⟩
def impl_Matrix_sum.f (k : Nat) (a0_0 : Int) (l0_1 : List Int) (a1_0 : Int) (l1_1 : List Int) : Option (Int × List Int) := (slices_Concat_int64_int64.f (([l0_1, l1_1] : List (List Int)))).bind fun t799 => ((impl_echelon.f k t799).bind fun t802 => (some (a0_0, t802)))
theorem impl_Matrix_sum.mono : ∀ a0 a1 a2 a3 k, LeO (impl_Matrix_sum.f k a0 a1 a2 a3) (impl_Matrix_sum.f (k + 1) a0 a1 a2 a3) := by
 intro a0 a1 a2 a3 k
 unfold impl_Matrix_sum.f
 repeat' first
  | (with_reducible first | apply impl_echelon.mono | exact LeO.refl _ | exact LeO.none _ | refine LeO.ite ?_ ?_ | refine LeO.bind ?_ (fun _ => ?_))
  | exact LeO.none _
  | refine LeO.ite ?_ ?_
  | refine LeO.bind ?_ (fun _ => ?_)
def impl_Matrix_sum.T1 : Bool × List (List Nat × List Nat) := (true, [([], []), ([0], [0]), ([], []), ([2], [2]), ([], []), ([4], [4]), ([3, 5], [3, 5]), ([6], [6]), ([7, 7], [7]), ([1, 8], [1, 8]), ([9, 8, 0, 1, 2, 3, 4, 5, 6, 7, 8, 9], [9])])
def impl_Matrix_sum.B1 : List Nat := [0, 1, 0, 4, 0, 16, 60, 124, 252, 511, 1023]
theorem impl_Matrix_sum.tab1 : rtab .any (opsOf Try.f93 1) = impl_Matrix_sum.T1 := by kernel_rfl
theorem impl_Matrix_sum.bits1 : waitsOk impl_Matrix_sum.T1.2 impl_Matrix_sum.B1 = true := by kernel_rfl
theorem impl_Matrix_sum.calls (k : Nat) (a0_0 : Int) (P0_1_ : Nat → Prop) (A0_1 : Option Addr) (c0_1 : Nat) (l0_1 : List Int) (a1_0 : Int) (P1_1_ : Nat → Prop) (A1_1 : Option Addr) (c1_1 : Nat) (l1_1 : List Int) (r1 : Int) (r2 : List Int) (w : World) (hs0_1 : Kd.V (Kd.int .i64) 2 w w.heap.size (fun k_ => P0_1_ k_) (.slice A0_1 l0_1.length c0_1) l0_1) (hs1_1 : Kd.V (Kd.int .i64) 2 w w.heap.size (fun k_ => P1_1_ k_) (.slice A1_1 l1_1.length c1_1) l1_1) (h : impl_Matrix_sum.f k a0_0 l0_1 a1_0 l1_1 = some (r1, r2)) :
 Calls Try.prog 93 #[.agg #[.int .i64 a0_0, .slice A0_1 l0_1.length c0_1], .agg #[.int .i64 a1_0, .slice A1_1 l1_1.length c1_1]] w fun e w' => ∃ v1_ : Value, e = .returned (.agg #[.int .i64 r1, v1_]) ∧ Kd.R (Kd.int .i64) 2 w' w.heap.size (fun k_ => (w.heap.size ≤ k_)) v1_ r2 ∧ Below w.heap.size w w' := by
 have hu63 := Try.underlying63
 have HO0_1 := Aq.mk (show Kd.V (Kd.int .i64) 2 w w.heap.size (fun k_ => ((P0_1_ k_ ∨ P1_1_ k_) ∨ w.heap.size ≤ k_)) (.slice A0_1 l0_1.length c0_1) l0_1 from Kd.V_mono hs0_1 (fun k_ hk => .inl (.inl hk)))
 have HO1_1 := Aq.mk (show Kd.V (Kd.int .i64) 2 w w.heap.size (fun k_ => ((P0_1_ k_ ∨ P1_1_ k_) ∨ w.heap.size ≤ k_)) (.slice A1_1 l1_1.length c1_1) l1_1 from Kd.V_mono hs1_1 (fun k_ hk => .inl (.inr hk)))
 have HB := Aq.mk (Below.refl w.heap.size w)
 have H : ((slices_Concat_int64_int64.f (([l0_1, l1_1] : List (List Int)))).bind fun t799 => ((impl_echelon.f k t799).bind fun t802 => (some (a0_0, t802)))) = some (r1, r2) := h
 clear h
 obtain ⟨y796, hy796⟩ : ∃ y_ : List (List Int), y_ = (([l0_1, l1_1] : List (List Int))) := ⟨_, rfl⟩
 replace H : ((slices_Concat_int64_int64.f y796).bind fun t799 => ((impl_echelon.f k t799).bind fun t802 => (some (a0_0, t802)))) = some (r1, r2) := by first | (rw [hy796]; with_reducible exact H) | (have H2_ := (Option.bind_some _ _).symm.trans H; rw [hy796]; with_reducible exact H2_) | (have H2_ := (Option.bind_some _ _).symm.trans H; with_reducible exact H2_) | with_reducible exact H | (rw [hy796]; exact H) | exact H
 have Ny796 := Aq.mk hy796
 clear hy796
 obtain ⟨t799, A3, H⟩ := qBd H
 obtain ⟨t802, A4, H⟩ := qBd H
 simp only [Option.some.injEq, Prod.mk.injEq] at H
 obtain ⟨rfl, rfl⟩ := H
 go_enter Try.func93, Try.ntmps93
 try go_wp2_with (first | ((with_reducible refine gQd (N := 2) rfl ?_); refine xQe ?hg (N := 2) ?hd (cs := #[.int .i64 a0_0, .slice A0_1 l0_1.length c0_1]) (t := 63) ?hr ?_; (case hd => rfl); (case hg => rfl); (case hr => exact tH); intro gb793 hg w5 hbox hb; refine qM6 (Kd.V_below (Kd.V_elderB (by (with_reducible repeat (first | apply Kd.V_alloc | apply Kd.V_drewN | apply Kd.V_drew)); exact HO0_1.out) gb793 (Nat.le_of_eq hg.symm)) hb) (Kd.V_below (Kd.V_elderB (by (with_reducible repeat (first | apply Kd.V_alloc | apply Kd.V_drewN | apply Kd.V_drew)); exact HO1_1.out) gb793 (Nat.le_of_eq hg.symm)) hb) (bQT tB hb) hbox (tZ w hg) (tZ w hg) ?_; clear HO0_1 HO1_1 HB; intro HO0_1 HO1_1 HB BK793 GW793 GE793; clear hb hbox hg) | ((with_reducible refine gQd (N := 3) rfl ?_); refine xQe ?hg (N := 3) ?hd (cs := #[.int .i64 a1_0, .slice A1_1 l1_1.length c1_1]) (t := 63) ?hr ?_; (case hd => rfl); (case hg => rfl); (case hr => exact tH); intro gb794 hg w6 hbox hb; refine qM9 (Kd.V_below (Kd.V_elderB (by (with_reducible repeat (first | apply Kd.V_alloc | apply Kd.V_drewN | apply Kd.V_drew)); exact HO0_1.out) gb794 (Nat.le_of_eq hg.symm)) hb) (Kd.V_below (Kd.V_elderB (by (with_reducible repeat (first | apply Kd.V_alloc | apply Kd.V_drewN | apply Kd.V_drew)); exact HO1_1.out) gb794 (Nat.le_of_eq hg.symm)) hb) (tQ BK793.out hb) (bQT tB hb) hbox (tZ w hg) (tZ w hg) ((by rw [hg]; exact Nat.ne_of_lt (blk_lt (g := gb793) (o := .cells #[.int .i64 a0_0, .slice A0_1 l0_1.length c0_1] 63 (0, 0)) (tG BK793.out)) : gb793 ≠ gb794)) ((by rw [hg]; exact Nat.ne_of_gt (blk_lt (g := gb793) (o := .cells #[.int .i64 a0_0, .slice A0_1 l0_1.length c0_1] 63 (0, 0)) (tG BK793.out)) : gb794 ≠ gb793)) ?_; clear HO0_1 HO1_1 BK793 HB; intro HO0_1 HO1_1 BK793 HB BK794 GW794 GE794 NB793_794 NB794_793; clear hb hbox hg) | ((with_reducible refine gQd (N := 4) rfl ?_); refine xQe ?hg (N := 4) ?hd (cs := #[.int .i64 0, .slice none 0 0]) (t := 63) ?hr ?_; (case hd => rfl); (case hg => rfl); (case hr => exact tH); intro gb795 hg w7 hbox hb; refine qM12 (Kd.V_below (Kd.V_elderB (by (with_reducible repeat (first | apply Kd.V_alloc | apply Kd.V_drewN | apply Kd.V_drew)); exact HO0_1.out) gb795 (Nat.le_of_eq hg.symm)) hb) (Kd.V_below (Kd.V_elderB (by (with_reducible repeat (first | apply Kd.V_alloc | apply Kd.V_drewN | apply Kd.V_drew)); exact HO1_1.out) gb795 (Nat.le_of_eq hg.symm)) hb) (tQ BK793.out hb) (tQ BK794.out hb) (bQT tB hb) hbox (tZ w hg) (tZ w hg) ((by rw [hg]; exact Nat.ne_of_lt (blk_lt (g := gb793) (o := .cells #[.int .i64 a0_0, .slice A0_1 l0_1.length c0_1] 63 (0, 0)) (tG BK793.out)) : gb793 ≠ gb795)) ((by rw [hg]; exact Nat.ne_of_gt (blk_lt (g := gb793) (o := .cells #[.int .i64 a0_0, .slice A0_1 l0_1.length c0_1] 63 (0, 0)) (tG BK793.out)) : gb795 ≠ gb793)) ((by rw [hg]; exact Nat.ne_of_lt (blk_lt (g := gb794) (o := .cells #[.int .i64 a1_0, .slice A1_1 l1_1.length c1_1] 63 (0, 0)) (tG BK794.out)) : gb794 ≠ gb795)) ((by rw [hg]; exact Nat.ne_of_gt (blk_lt (g := gb794) (o := .cells #[.int .i64 a1_0, .slice A1_1 l1_1.length c1_1] 63 (0, 0)) (tG BK794.out)) : gb795 ≠ gb794)) ?_; clear HO0_1 HO1_1 BK793 BK794 HB; intro HO0_1 HO1_1 BK793 BK794 HB BK795 GW795 GE795 NB793_795 NB795_793 NB794_795 NB795_794; clear hb hbox hg))
 have n0_ := Aq.mk (Kd.V_drew HO0_1.out)
 have n1_ := Aq.mk (Kd.V_drew HO1_1.out)
 have n2_ := Aq.mk (kQD BK793.out)
 have n3_ := Aq.mk (kQD BK794.out)
 have n4_ := Aq.mk (kQD BK795.out)
 have n5_ := Aq.mk (bQ1 HB.out)
 clear HO0_1
 clear HO1_1
 clear BK793
 clear BK794
 clear BK795
 clear HB
 have HO0_1 := n0_
 have HO1_1 := n1_
 have BK793 := n2_
 have BK794 := n3_
 have BK795 := n4_
 have HB := n5_
 clear n0_ n1_ n2_ n3_ n4_ n5_
 refine start_ (n := 11) (S := fun w' => w'.cell? ⟨gb793, 0, none⟩ = some (.int .i64 a0_0) ∧ w'.cell? ⟨gb793, 1, none⟩ = some (.slice A0_1 l0_1.length c0_1) ∧ w'.cell? ⟨gb794, 0, none⟩ = some (.int .i64 a1_0) ∧ w'.cell? ⟨gb794, 1, none⟩ = some (.slice A1_1 l1_1.length c1_1)) (ds := []) #[false, false, false, false, false, false, false, false, false, false, false] (by kernel_rfl) rfl rfl ⟨(kQC BK793.out 0).trans rfl, (kQC BK793.out 1).trans rfl, (kQC BK794.out 0).trans rfl, (kQC BK794.out 1).trans rfl⟩ (fun hHeld => ?_); refine with_tabW impl_Matrix_sum.tab1 impl_Matrix_sum.bits1 (fun HT_ HW_ => ?_)
 generalize w7.drew = w8 at HO0_1 HO1_1 BK793 BK794 BK795 HB hHeld ⊢
 refine tP0 0 5 (bm 11 1) ?_
 refine tP0 2 7 (bm 11 5) ?_
 refine tP0 4 9 (bm 11 21) ?_
 refine tT4 1 6 (bm 11 23) ?_
 refine tT4 3 8 (bm 11 31) ?_
 refine tT4 5 10 (bm 11 63) ?_
 refine one_ (i := 6) (N := some 11) (bm 11 127) rfl rfl (one_of HT_.out (by kernel_rfl)) (by decide) (fun K hK => ?_)
 refine Kd.N_lit_step (Kd.slice 2 (Kd.int .i64)) _ 38 ?hg (N' := 11) ?hd (xs := ([l0_1, l1_1] : List (List Int))) (inner := [.slice A0_1 l0_1.length c0_1, .slice A1_1 l1_1.length c1_1]) (ok := (fun k_ => ((P0_1_ k_ ∨ P1_1_ k_) ∨ w.heap.size ≤ k_) ∧ k_ ≠ gb793 ∧ k_ ≠ gb794 ∧ k_ ≠ gb795)) (okp := (fun k_ => ((P0_1_ k_ ∨ P1_1_ k_) ∨ w.heap.size ≤ k_) ∧ k_ ≠ gb793 ∧ k_ ≠ gb794 ∧ k_ ≠ gb795)) ?hr ?hp (fun _ hk => hk) ((show ∀ k_, w8.heap.size ≤ k_ → (fun k_ => ((P0_1_ k_ ∨ P1_1_ k_) ∨ w.heap.size ≤ k_) ∧ k_ ≠ gb793 ∧ k_ ≠ gb794 ∧ k_ ≠ gb795) k_ from fun k_ hk => ⟨(.inr (Nat.le_trans (bQZ tB) hk)), Kd.freshB (g := gb793) (o := .cells #[.int .i64 a0_0, .slice A0_1 l0_1.length c0_1] 63 (0, 0)) (tG BK793.out) k_ hk, Kd.freshB (g := gb794) (o := .cells #[.int .i64 a1_0, .slice A1_1 l1_1.length c1_1] 63 (0, 0)) (tG BK794.out) k_ hk, Kd.freshB (g := gb795) (o := .cells #[.int .i64 0, .slice none 0 0] 63 (0, 0)) (tG BK795.out) k_ hk⟩) _ (Nat.le_refl _)) (Below.refl _ _) (Nat.le_refl _) (by simp) ?_; (case hd => rfl); (case hg => rfl); (case hr => exact tH); (case hp => exact (Reps.one (show Kd.FK (Kd.slice 2 (Kd.int .i64)) _ _ l0_1 [.slice A0_1 l0_1.length c0_1] from (Kd.FK_slice_mk (Kd.V_reads' (Kd.V_mono (ok' := (fun k_ => ((P0_1_ k_ ∨ P1_1_ k_) ∨ w.heap.size ≤ k_) ∧ k_ ≠ gb793 ∧ k_ ≠ gb794 ∧ k_ ≠ gb795)) (HO0_1.out) (fun k_ hk => ⟨hk.1.1.1, ⟨hk.1.1.2, ⟨hk.1.2, hk.2⟩⟩⟩))).2.1 (Kd.V_F (Kd.V_mono (ok' := (fun k_ => ((P0_1_ k_ ∨ P1_1_ k_) ∨ w.heap.size ≤ k_) ∧ k_ ≠ gb793 ∧ k_ ≠ gb794 ∧ k_ ≠ gb795)) (HO0_1.out) (fun k_ hk => ⟨hk.1.1.1, ⟨hk.1.1.2, ⟨hk.1.2, hk.2⟩⟩⟩))))) (Reps.one (show Kd.FK (Kd.slice 2 (Kd.int .i64)) _ _ l1_1 [.slice A1_1 l1_1.length c1_1] from (Kd.FK_slice_mk (Kd.V_reads' (Kd.V_mono (ok' := (fun k_ => ((P0_1_ k_ ∨ P1_1_ k_) ∨ w.heap.size ≤ k_) ∧ k_ ≠ gb793 ∧ k_ ≠ gb794 ∧ k_ ≠ gb795)) (HO1_1.out) (fun k_ hk => ⟨hk.1.1.1, ⟨hk.1.1.2, ⟨hk.1.2, hk.2⟩⟩⟩))).2.1 (Kd.V_F (Kd.V_mono (ok' := (fun k_ => ((P0_1_ k_ ∨ P1_1_ k_) ∨ w.heap.size ≤ k_) ∧ k_ ≠ gb793 ∧ k_ ≠ gb794 ∧ k_ ≠ gb795)) (HO1_1.out) (fun k_ hk => ⟨hk.1.1.1, ⟨hk.1.1.2, ⟨hk.1.2, hk.2⟩⟩⟩))))) (Reps.none _ _))))
 intro v797 w9 ho10 hb hg_ hnew_
 clear hg_ hnew_
 (first | rw [← Ny796.out] at ho10 | (simp only [Int.reduceToNat] at ho10; rw [← Ny796.out] at ho10))
 have n0_ := Aq.mk (Kd.V_elder' (by (with_reducible repeat (first | apply Kd.V_alloc | apply Kd.V_drewN | apply Kd.V_drew)); exact HO0_1.out) (Kd.N_base ho10) hb)
 have n1_ := Aq.mk (Kd.V_elder' (by (with_reducible repeat (first | apply Kd.V_alloc | apply Kd.V_drewN | apply Kd.V_drew)); exact HO1_1.out) (Kd.N_base ho10) hb)
 have n2_ := Aq.mk (Kd.N_lower ho10 (bQZ tB))
 have n3_ := Aq.mk (tQ BK793.out hb)
 have n4_ := Aq.mk (tQ BK794.out hb)
 have n5_ := Aq.mk (tQ BK795.out hb)
 have n6_ := Aq.mk (bQT tB hb)
 clear HO0_1
 clear HO1_1
 clear BK793
 clear BK794
 clear BK795
 clear HB
 have HO0_1 := n0_
 have HO1_1 := n1_
 have HO798 := n2_
 have BK793 := n3_
 have BK794 := n4_
 have BK795 := n5_
 have HB := n6_
 clear n0_ n1_ n2_ n3_ n4_ n5_ n6_
 clear hb ho10
 obtain ⟨Ao11, co11, eo11⟩ := Kd.N_slice HO798.out
 (first | subst eo11 | (injection eo11 with f1_ f2_ f3_; have f4_ := f1_.symm; have f5_ := f3_.symm; clear f1_ f2_ f3_; subst f4_; subst f5_))
 refine hK.out _ _ ⟨(kQC BK793.out 0).trans rfl, (kQC BK793.out 1).trans rfl, (kQC BK794.out 0).trans rfl, (kQC BK794.out 1).trans rfl⟩ (fun hHeld => ?_)
 clear hK K
 refine tN 11 ?_
 refine one_ (i := 7) (N := some 12) (bm 11 255) rfl rfl (one_of HT_.out (by kernel_rfl)) (by decide) (fun K hK => ?_)
 refine goes_ Try.func115 (by kernel_rfl) rfl #[.slice Ao11 y796.length co11] (by rfl) rfl rfl tL ?_
 with_reducible refine (slices_Concat_int64_int64.calls _ _ y796 t799 _ ?s1 ?s2 A3.out).mono ?_
 (case s1 => exact tC ((Kd.N_reads' HO798.out).2.2))
 (case s2 => exact (Kd.N_reads' HO798.out).2.1)
 rintro e w12 ⟨v800, rfl, ho0, hb⟩
 refine ⟨_, rfl, ?_⟩
 have n0_ := Aq.mk (Kd.V_elder' (by (with_reducible repeat (first | apply Kd.V_alloc | apply Kd.V_drewN | apply Kd.V_drew)); exact HO0_1.out) (Kd.R_base ho0) hb)
 have n1_ := Aq.mk (Kd.V_elder' (by (with_reducible repeat (first | apply Kd.V_alloc | apply Kd.V_drewN | apply Kd.V_drew)); exact HO1_1.out) (Kd.R_base ho0) hb)
 have n2_ := Aq.mk (Kd.N_elder' (by (with_reducible repeat (first | apply Kd.N_alloc | apply Kd.N_drewN | apply Kd.N_drew)); exact HO798.out) (Kd.R_base ho0) hb)
 have n3_ := Aq.mk (Kd.R_lower (Kd.R_newM (M := fun k_ => (w.heap.size ≤ k_)) ho0 (bQZ tB) (fun k_ h_ => h_)) (bQZ tB))
 have n4_ := Aq.mk (tQ BK793.out hb)
 have n5_ := Aq.mk (tQ BK794.out hb)
 have n6_ := Aq.mk (tQ BK795.out hb)
 have n7_ := Aq.mk (bQT tB hb)
 clear HO0_1
 clear HO1_1
 clear HO798
 clear BK793
 clear BK794
 clear BK795
 clear HB
 have HO0_1 := n0_
 have HO1_1 := n1_
 have HO798 := n2_
 have HO801 := n3_
 have BK793 := n4_
 have BK794 := n5_
 have BK795 := n6_
 have HB := n7_
 clear n0_ n1_ n2_ n3_ n4_ n5_ n6_ n7_
 (try clear hb)
 (try clear hb2)
 (try clear hk)
 (try clear hi)
 (try clear ho0)
 obtain ⟨Ao13, co13, eo13⟩ := Kd.R_slice HO801.out
 (first | subst eo13 | (injection eo13 with f1_ f2_ f3_; have f4_ := f1_.symm; have f5_ := f3_.symm; clear f1_ f2_ f3_; subst f4_; subst f5_))
 refine hK.out _ _ ⟨(kQC BK793.out 0).trans rfl, (kQC BK793.out 1).trans rfl, (kQC BK794.out 0).trans rfl, (kQC BK794.out 1).trans rfl⟩ (fun hHeld => ?_)
 clear hK K
 refine tN 12 ?_
 refine one_ (i := 8) (N := some 13) (bm 11 511) rfl rfl (one_of HT_.out (by kernel_rfl)) (by decide) (fun K hK => ?_)
 refine goes_ Try.func86 (by kernel_rfl) rfl #[.slice Ao13 t799.length co13] (by rfl) rfl rfl tL ?_
 with_reducible refine (impl_echelon.calls k _ _ t799 t802 _ ?s1 ?s2 A4.out).mono ?_
 (case s1 => exact tC ((Kd.R_reads' HO801.out).2.2))
 (case s2 => exact (Kd.R_reads' HO801.out).2.1)
 rintro e w14 ⟨v803, rfl, ho0, hb⟩
 refine ⟨_, rfl, ?_⟩
 have n0_ := Aq.mk (Kd.V_elder' (by (with_reducible repeat (first | apply Kd.V_alloc | apply Kd.V_drewN | apply Kd.V_drew)); exact HO0_1.out) (Kd.R_base ho0) hb)
 have n1_ := Aq.mk (Kd.V_elder' (by (with_reducible repeat (first | apply Kd.V_alloc | apply Kd.V_drewN | apply Kd.V_drew)); exact HO1_1.out) (Kd.R_base ho0) hb)
 have n2_ := Aq.mk (Kd.N_elder' (by (with_reducible repeat (first | apply Kd.N_alloc | apply Kd.N_drewN | apply Kd.N_drew)); exact HO798.out) (Kd.R_base ho0) hb)
 have n3_ := Aq.mk (Kd.R_elder' (tR HO801.out) (Kd.R_base ho0) hb)
 have n4_ := Aq.mk (Kd.R_lower (Kd.R_new' (Kd.R_newM (M := fun k_ => (w.heap.size ≤ k_)) ho0 (bQZ tB) (fun k_ h_ => h_)) (Kd.R_lt (tR HO801.out))) (bQZ tB))
 have n5_ := Aq.mk (tQ BK793.out hb)
 have n6_ := Aq.mk (tQ BK794.out hb)
 have n7_ := Aq.mk (tQ BK795.out hb)
 have n8_ := Aq.mk (bQT tB hb)
 clear HO0_1
 clear HO1_1
 clear HO798
 clear HO801
 clear BK793
 clear BK794
 clear BK795
 clear HB
 have HO0_1 := n0_
 have HO1_1 := n1_
 have HO798 := n2_
 have HO801 := n3_
 have HO804 := n4_
 have BK793 := n5_
 have BK794 := n6_
 have BK795 := n7_
 have HB := n8_
 clear n0_ n1_ n2_ n3_ n4_ n5_ n6_ n7_ n8_
 (try clear hb)
 (try clear hb2)
 (try clear hk)
 (try clear hi)
 (try clear ho0)
 obtain ⟨Ao15, co15, eo15⟩ := Kd.R_slice HO804.out
 (first | subst eo15 | (injection eo15 with f1_ f2_ f3_; have f4_ := f1_.symm; have f5_ := f3_.symm; clear f1_ f2_ f3_; subst f4_; subst f5_))
 refine hK.out _ _ ⟨(kQC BK793.out 0).trans rfl, (kQC BK793.out 1).trans rfl, (kQC BK794.out 0).trans rfl, (kQC BK794.out 1).trans rfl⟩ (fun hHeld => ?_)
 clear hK K
 refine tN 13 ?_
 refine tP0 9 14 (bm 11 1023) ?_
 refine one_ (i := 10) (N := none) #[true, true, true, true, true, true, true, true, true, true, true] rfl rfl (one_of HT_.out (by kernel_rfl)) (by decide) (fun K hK => ?_)
 have hs16 : w14.cell? ⟨gb795, 0, none⟩ = some (.int .i64 0) := (kQC BK795.out 0).trans rfl
 have hfs16 := kQF BK795.out 0
 have hns16_0 := NB793_795.out
 have hns16_1 := NB794_795.out
 have hms16_0 := NB795_793.out
 have hms16_1 := NB795_794.out
 have hs17 : w14.cell? ⟨gb795, 1, none⟩ = some (.slice none 0 0) := (kQC BK795.out 1).trans rfl
 have hfs17 := kQF BK795.out 1
 have hns17_0 := NB793_795.out
 have hns17_1 := NB794_795.out
 have hms17_0 := NB795_793.out
 have hms17_1 := NB795_794.out
 refine skip_ (w1 := ?_) (by rfl) rfl ?_ ?_
 rotate_left
 ·go_simp
  rfl
 refine hK.out _ _ ⟨((cell_far (p := ⟨gb795, _, none⟩) NB793_795.out _).trans (((cell_far (p := ⟨gb795, _, none⟩) NB793_795.out _).trans (hHeld.1)))), ((cell_far (p := ⟨gb795, _, none⟩) NB793_795.out _).trans (((cell_far (p := ⟨gb795, _, none⟩) NB793_795.out _).trans (hHeld.2.1)))), ((cell_far (p := ⟨gb795, _, none⟩) NB794_795.out _).trans (((cell_far (p := ⟨gb795, _, none⟩) NB794_795.out _).trans (hHeld.2.2.1)))), ((cell_far (p := ⟨gb795, _, none⟩) NB794_795.out _).trans (((cell_far (p := ⟨gb795, _, none⟩) NB794_795.out _).trans (hHeld.2.2.2))))⟩ (fun hHeld => ?_)
 clear hK K
 refine done_ (done_of HT_.out (by kernel_rfl)) ?_
 try go_wp2
 refine bodyPost_ret (results_cell_row rfl _ _ gb795 63 #[.int .i64 a0_0, .slice Ao15 t802.length co15] (0, 0) _ rfl (by (with_reducible repeat (first | refine kQN ?_ _ | refine kQD ?_ | refine kQA ?_ _)); refine kQP (cs := #[.int .i64 a0_0, .slice none 0 0]) ?_ 1 _ rfl; (with_reducible repeat (first | refine kQN ?_ _ | refine kQD ?_ | refine kQA ?_ _)); refine kQP (cs := #[.int .i64 0, .slice none 0 0]) ?_ 0 _ rfl; (with_reducible repeat (first | refine kQN ?_ _ | refine kQD ?_ | refine kQA ?_ _)); exact BK795.out) Try.underlying63 rfl (by kernel_rfl)) rfl ?_
 exact ⟨_, tE, by (with_reducible repeat (first | apply Kd.RqA | apply Kd.RqN | apply Kd.RqD)); exact Kd.R_mono (Kd.R_far (p := ⟨gb795, 1, none⟩) (Kd.R_far (p := ⟨gb795, 0, none⟩) (Kd.R_types HO804.out BK795.out (by decide)) (fun _ hk => hk.2) (.int .i64 a0_0)) (fun _ hk => hk.2) (.slice Ao15 t802.length co15)) (fun _ hk => hk.1.1.1), tB⟩
def impl_Matrix_distance.f (k : Nat) (a0_0 : Int) (l0_1 : List Int) (a1_0 : Int) (l1_1 : List Int) : Option (Int) := (impl_Matrix_sum.f k a0_0 l0_1 a1_0 l1_1).bind fun bt807 => ((impl_size_int64_71.f bt807.2).bind fun t811 => ((impl_size_int64_71.f l0_1).bind fun t812 => ((impl_size_int64_71.f l1_1).bind fun t813 => (some (wrap64 ((wrap64 ((wrap64 (2 * t811)) - t812)) - t813))))))
theorem impl_Matrix_distance.mono : ∀ a0 a1 a2 a3 k, LeO (impl_Matrix_distance.f k a0 a1 a2 a3) (impl_Matrix_distance.f (k + 1) a0 a1 a2 a3) := by
 intro a0 a1 a2 a3 k
 unfold impl_Matrix_distance.f
 repeat' first
  | (with_reducible first | apply impl_Matrix_sum.mono | exact LeO.refl _ | exact LeO.none _ | refine LeO.ite ?_ ?_ | refine LeO.bind ?_ (fun _ => ?_))
  | exact LeO.none _
  | refine LeO.ite ?_ ?_
  | refine LeO.bind ?_ (fun _ => ?_)
def impl_Matrix_distance.T1 : Bool × List (List Nat × List Nat) := (true, [([], []), ([], []), ([0, 1], [0, 1]), ([2], [2]), ([3, 2], [3]), ([4], [4]), ([], []), ([6], [6]), ([7, 4], [7]), ([5, 8], [5, 8]), ([], []), ([10], [10]), ([11, 8], [11]), ([9, 12], [9, 12]), ([13, 12, 0, 1, 2, 3, 4, 5, 6, 7, 8, 9, 10, 11, 12, 13], [13])])
def impl_Matrix_distance.B1 : List Nat := [0, 0, 3, 7, 15, 31, 0, 64, 223, 511, 0, 1024, 3551, 8191, 16383]
theorem impl_Matrix_distance.tab1 : rtab .any (opsOf Try.f60 1) = impl_Matrix_distance.T1 := by kernel_rfl
theorem impl_Matrix_distance.bits1 : waitsOk impl_Matrix_distance.T1.2 impl_Matrix_distance.B1 = true := by kernel_rfl
theorem impl_Matrix_distance.calls (k : Nat) (a0_0 : Int) (A0_1 : Option Addr) (c0_1 : Nat) (l0_1 : List Int) (a1_0 : Int) (A1_1 : Option Addr) (c1_1 : Nat) (l1_1 : List Int) (r : Int) (w : World) (hr0_1 : Kd.C (Kd.int .i64) w A0_1 l0_1.length l0_1) (hc0_1 : l0_1.length ≤ c0_1) (hr1_1 : Kd.C (Kd.int .i64) w A1_1 l1_1.length l1_1) (hc1_1 : l1_1.length ≤ c1_1) (h : impl_Matrix_distance.f k a0_0 l0_1 a1_0 l1_1 = some r) :
 Calls Try.prog 60 #[.agg #[.int .i64 a0_0, .slice A0_1 l0_1.length c0_1], .agg #[.int .i64 a1_0, .slice A1_1 l1_1.length c1_1]] w fun e w' => e = .returned (.int .i64 r) ∧ Below w.heap.size w w' := by
 have hu63 := Try.underlying63
 have HR0_1 := Aq.mk hr0_1
 have HC0_1 := Aq.mk hc0_1
 clear hr0_1 hc0_1
 have HR1_1 := Aq.mk hr1_1
 have HC1_1 := Aq.mk hc1_1
 clear hr1_1 hc1_1
 have HB := Aq.mk (Below.refl w.heap.size w)
 have H : ((impl_Matrix_sum.f k a0_0 l0_1 a1_0 l1_1).bind fun bt807 => ((impl_size_int64_71.f bt807.2).bind fun t811 => ((impl_size_int64_71.f l0_1).bind fun t812 => ((impl_size_int64_71.f l1_1).bind fun t813 => (some (wrap64 ((wrap64 ((wrap64 (2 * t811)) - t812)) - t813))))))) = some r := h
 clear h
 obtain ⟨⟨t807, t808⟩, A3, H⟩ := qBd H
 (try dsimp only at H)
 obtain ⟨t811, A4, H⟩ := qBd H
 obtain ⟨t812, A5, H⟩ := qBd H
 obtain ⟨t813, A6, H⟩ := qBd H
 obtain rfl := Option.some.inj H
 go_enter Try.func60, Try.ntmps60
 try go_wp2_with (first | ((with_reducible refine gQd (N := 2) rfl ?_); refine xQe ?hg (N := 2) ?hd (cs := #[.int .i64 a0_0, .slice A0_1 l0_1.length c0_1]) (t := 63) ?hr ?_; (case hd => rfl); (case hg => rfl); (case hr => exact tH); intro gb805 hg w7 hbox hb; refine qM4 (bQT tB hb) hbox (tZ w hg) (tZ w hg) ?_; clear HB; intro HB BK805 GW805 GE805; clear hb hbox hg) | ((with_reducible refine gQd (N := 3) rfl ?_); refine xQe ?hg (N := 3) ?hd (cs := #[.int .i64 a1_0, .slice A1_1 l1_1.length c1_1]) (t := 63) ?hr ?_; (case hd => rfl); (case hg => rfl); (case hr => exact tH); intro gb806 hg w8 hbox hb; refine qM7 (tQ BK805.out hb) (bQT tB hb) hbox (tZ w hg) (tZ w hg) ((by rw [hg]; exact Nat.ne_of_lt (blk_lt (g := gb805) (o := .cells #[.int .i64 a0_0, .slice A0_1 l0_1.length c0_1] 63 (0, 0)) (tG BK805.out)) : gb805 ≠ gb806)) ((by rw [hg]; exact Nat.ne_of_gt (blk_lt (g := gb805) (o := .cells #[.int .i64 a0_0, .slice A0_1 l0_1.length c0_1] 63 (0, 0)) (tG BK805.out)) : gb806 ≠ gb805)) ?_; clear BK805 HB; intro BK805 HB BK806 GW806 GE806 NB805_806 NB806_805; clear hb hbox hg))
 have n0_ := Aq.mk (kQD BK805.out)
 have n1_ := Aq.mk (kQD BK806.out)
 have n2_ := Aq.mk (bQ1 HB.out)
 clear BK805
 clear BK806
 clear HB
 have BK805 := n0_
 have BK806 := n1_
 have HB := n2_
 clear n0_ n1_ n2_
 refine start_ (n := 15) (S := fun w' => w'.cell? ⟨gb805, 0, none⟩ = some (.int .i64 a0_0) ∧ w'.cell? ⟨gb805, 1, none⟩ = some (.slice A0_1 l0_1.length c0_1) ∧ w'.cell? ⟨gb806, 0, none⟩ = some (.int .i64 a1_0) ∧ w'.cell? ⟨gb806, 1, none⟩ = some (.slice A1_1 l1_1.length c1_1)) (ds := []) #[false, false, false, false, false, false, false, false, false, false, false, false, false, false, false] (by kernel_rfl) rfl rfl ⟨(kQC BK805.out 0).trans rfl, (kQC BK805.out 1).trans rfl, (kQC BK806.out 0).trans rfl, (kQC BK806.out 1).trans rfl⟩ (fun hHeld => ?_); refine with_tabW impl_Matrix_distance.tab1 impl_Matrix_distance.bits1 (fun HT_ HW_ => ?_)
 generalize w8.drew = w9 at BK805 BK806 HB hHeld ⊢
 refine tP0 6 11 (bm 15 64) ?_
 refine tP0 10 15 (bm 15 1088) ?_
 refine tT4 0 5 (bm 15 1089) ?_
 refine tT4 1 6 (bm 15 1091) ?_
 refine tT4 7 12 (bm 15 1219) ?_
 refine tT4 11 16 (bm 15 3267) ?_
 refine one_ (i := 2) (N := some 7) (bm 15 3271) rfl rfl (one_of HT_.out (by kernel_rfl)) (by decide) (fun K hK => ?_)
 refine goes_ Try.func93 (by kernel_rfl) rfl #[.agg #[.int .i64 a0_0, .slice A0_1 l0_1.length c0_1], .agg #[.int .i64 a1_0, .slice A1_1 l1_1.length c1_1]] (by rfl) rfl rfl tL ?_
 with_reducible refine (impl_Matrix_sum.calls k a0_0 (fun k_ => k_ < w.heap.size) _ _ l0_1 a1_0 (fun k_ => k_ < w.heap.size) _ _ l1_1 t807 t808 _ ?s1 ?s2 A3.out).mono ?_
 (case s1 => exact Kd.V_mk HC0_1.out (Kd.F_below (Kd.C_F (Kd.heap_int .i64) HR0_1.out) tB))
 (case s2 => exact Kd.V_mk HC1_1.out (Kd.F_below (Kd.C_F (Kd.heap_int .i64) HR1_1.out) tB))
 rintro e w10 ⟨v809, rfl, ho0, hb⟩
 refine ⟨_, rfl, ?_⟩
 have n0_ := Aq.mk (Kd.R_lower (Kd.R_mono (ok' := fun k_ => True) ho0 (fun _ hk_ => trivial)) (bQZ tB))
 have n1_ := Aq.mk (tQ BK805.out hb)
 have n2_ := Aq.mk (tQ BK806.out hb)
 have n3_ := Aq.mk (bQT tB hb)
 clear BK805
 clear BK806
 clear HB
 have HO810 := n0_
 have BK805 := n1_
 have BK806 := n2_
 have HB := n3_
 clear n0_ n1_ n2_ n3_
 (try clear hb)
 (try clear hb2)
 (try clear hk)
 (try clear hi)
 (try clear ho0)
 obtain ⟨Ao11, co11, eo11⟩ := Kd.R_slice HO810.out
 (first | subst eo11 | (injection eo11 with f1_ f2_ f3_; have f4_ := f1_.symm; have f5_ := f3_.symm; clear f1_ f2_ f3_; subst f4_; subst f5_))
 refine hK.out _ _ ⟨(kQC BK805.out 0).trans rfl, (kQC BK805.out 1).trans rfl, (kQC BK806.out 0).trans rfl, (kQC BK806.out 1).trans rfl⟩ (fun hHeld => ?_)
 clear hK K
 refine tN 7 ?_
 refine tP0 3 8 (bm 15 3279) ?_
 refine one_ (i := 4) (N := some 9) (bm 15 3295) rfl rfl (one_of HT_.out (by kernel_rfl)) (by decide) (fun K hK => ?_)
 refine goes_ Try.func71 (by kernel_rfl) rfl #[.slice Ao11 t808.length co11] (by rfl) rfl rfl tL ?_
 with_reducible refine (impl_size_int64_71.calls _ _ t808 t811 _ ?s1 ?s2 A4.out).mono ?_
 (case s1 => exact tC ((Kd.R_reads' HO810.out).2.2))
 (case s2 => exact (Kd.R_reads' HO810.out).2.1)
 rintro e w' ⟨rfl, ⟨nd, rfl⟩⟩
 refine ⟨_, rfl, ?_⟩
 refine hK.out _ _ ⟨(kQC BK805.out 0).trans rfl, (kQC BK805.out 1).trans rfl, (kQC BK806.out 0).trans rfl, (kQC BK806.out 1).trans rfl⟩ (fun hHeld => ?_)
 clear hK K
 refine tN 9 ?_
 refine tP0 5 10 (bm 15 3327) ?_
 refine one_ (i := 8) (N := some 13) (bm 15 3583) rfl rfl (one_of HT_.out (by kernel_rfl)) (by decide) (fun K hK => ?_)
 refine goes_ Try.func71 (by kernel_rfl) rfl #[.slice A0_1 l0_1.length c0_1] (by rfl) rfl rfl tL ?_
 with_reducible refine (impl_size_int64_71.calls _ _ l0_1 t812 _ ?s1 ?s2 A5.out).mono ?_
 (case s1 => exact tC ((Kd.C_below HR0_1.out tB)))
 (case s2 => exact HC0_1.out)
 rintro e w' ⟨rfl, ⟨nd, rfl⟩⟩
 refine ⟨_, rfl, ?_⟩
 refine hK.out _ _ ⟨(kQC BK805.out 0).trans rfl, (kQC BK805.out 1).trans rfl, (kQC BK806.out 0).trans rfl, (kQC BK806.out 1).trans rfl⟩ (fun hHeld => ?_)
 clear hK K
 refine tN 13 ?_
 refine tP0 9 14 (bm 15 4095) ?_
 refine one_ (i := 12) (N := some 17) (bm 15 8191) rfl rfl (one_of HT_.out (by kernel_rfl)) (by decide) (fun K hK => ?_)
 refine goes_ Try.func71 (by kernel_rfl) rfl #[.slice A1_1 l1_1.length c1_1] (by rfl) rfl rfl tL ?_
 with_reducible refine (impl_size_int64_71.calls _ _ l1_1 t813 _ ?s1 ?s2 A6.out).mono ?_
 (case s1 => exact tC ((Kd.C_below HR1_1.out tB)))
 (case s2 => exact HC1_1.out)
 rintro e w' ⟨rfl, ⟨nd, rfl⟩⟩
 refine ⟨_, rfl, ?_⟩
 refine hK.out _ _ ⟨(kQC BK805.out 0).trans rfl, (kQC BK805.out 1).trans rfl, (kQC BK806.out 0).trans rfl, (kQC BK806.out 1).trans rfl⟩ (fun hHeld => ?_)
 clear hK K
 refine tN 17 ?_
 refine tP0 13 18 (bm 15 16383) ?_
 refine tP0 14 4 (bm 15 32767) ?_
 refine done_ (done_of HT_.out (by kernel_rfl)) ?_
 try go_wp2
 go_ret
 exact ⟨tE, tB⟩
end Go.Proofs.Ytbalkaphibnpcaa.P
