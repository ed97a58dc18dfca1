/- Functions of the program and what they tell, as the printing program wrote it. -/
import Derived.Test.YtpigghpimgkilaaPx0
import Derived.Test.YtpigghpimgkilaaPx4
namespace Go.Proofs.Ytpigghpimgkilaa.P
open Go.Shelf Go.RowKit Go.Proofs.YtpigghpimgkilaaW.PrintWords Go.Proofs.YtpigghpimgkilaaW.PrintLast Go.Proofs.YtpigghpimgkilaaW.PrintMore
attribute [local go_sem] max2_int min2_int max_two min_two max_three min_three max_four min_four
set_option linter.unusedVariables false
set_option linter.unusedSimpArgs false
set_option maxHeartbeats 8000000
set_option maxRecDepth 100000
def spec_l03Fold.l0 : Nat → List Int → List Int → Int → Int → Int → Option (List Int)
  | 0, _, _, _, _, _ => none
  | k + 1, x1, x5, x6, x139000, x139001 => if x6 < (x1.length : Int) then (if x139000 = 0 then (none) else (if 0 ≤ (Int.tmod x6 x139000) then (if (Int.tmod x6 x139000) < (x5.length : Int) then (if 0 ≤ x6 then (spec_l03Fold.l0 k x1 (x5.set ((Int.tmod x6 x139000) : Int).toNat (Go.bits .xor .i64 (rd x5 (Int.tmod x6 x139000)) (rd x1 x6))) (wrap64 (x6 + 1)) x139000 x139001) else (none)) else (none)) else (none))) else ((spec_l03Trim.f k x5).bind fun t145 => (some t145))
def spec_l03Fold.f (k : Nat) (a0_0 : Int) (a0_1 : Int) (l1 : List Int) : Option (List Int) := if 0 ≤ a0_0 then (if (a0_0 : Int).toNat ≤ 35184372088832 then (spec_l03Fold.l0 k l1 (List.replicate (a0_0 : Int).toNat 0) 0 a0_0 a0_1) else (none)) else (none)
theorem spec_l03Fold.mono_l : ∀ k, (∀ y0 y1 y2 y3 y4, LeO (spec_l03Fold.l0 k y0 y1 y2 y3 y4) (spec_l03Fold.l0 (k + 1) y0 y1 y2 y3 y4))
 | 0 => fun _ _ _ _ _ r h => by simp [spec_l03Fold.l0] at h
 | k + 1 => by
  have ih0 := spec_l03Fold.mono_l k
  ·intro y0 y1 y2 y3 y4
   unfold spec_l03Fold.l0
   repeat' first
   | (with_reducible first | apply ih0 | apply spec_l03Trim.mono | exact LeO.refl _ | exact LeO.none _ | refine LeO.ite ?_ ?_ | refine LeO.bind ?_ (fun _ => ?_))
   | exact LeO.none _
   | refine LeO.ite ?_ ?_
   | refine LeO.bind ?_ (fun _ => ?_)
theorem spec_l03Fold.mono : ∀ a0 a1 a2 k, LeO (spec_l03Fold.f k a0 a1 a2) (spec_l03Fold.f (k + 1) a0 a1 a2) := by
 intro a0 a1 a2 k
 have ih0 := spec_l03Fold.mono_l k
 unfold spec_l03Fold.f
 repeat' first
  | (with_reducible first | apply ih0 | apply spec_l03Trim.mono | exact LeO.refl _ | exact LeO.none _ | refine LeO.ite ?_ ?_ | refine LeO.bind ?_ (fun _ => ?_))
  | exact LeO.none _
  | refine LeO.ite ?_ ?_
  | refine LeO.bind ?_ (fun _ => ?_)
def spec_l03Fold.T5 : Bool × List (List Nat × List Nat) := (true, [([], []), ([], []), ([], []), ([2], [2]), ([1, 3], [1, 3]), ([0, 4], [0, 4]), ([5], [5]), ([], []), ([], []), ([7, 8], [7, 8]), ([9], [9]), ([6, 10], [6, 10]), ([0, 4, 0, 1, 2, 3, 4, 5, 6, 7, 8, 9, 10, 11], [0, 4]), ([12, 11, 0, 1, 2, 3, 4, 5, 6, 7, 8, 9, 10, 11], [11, 12])])
def spec_l03Fold.B5 : List Nat := [0, 0, 0, 4, 14, 31, 63, 0, 0, 384, 896, 2047, 4095, 8191]
theorem spec_l03Fold.tab5 : rtab .any (opsOf Try.f25 5) = spec_l03Fold.T5 := by kernel_rfl
theorem spec_l03Fold.bits5 : waitsOk spec_l03Fold.T5.2 spec_l03Fold.B5 = true := by kernel_rfl
theorem spec_l03Fold.calls (k : Nat) (a0_0 : Int) (a0_1 : Int) (A1 : Option Addr) (c1 : Nat) (l1 : List Int) (r : List Int) (w : World) (hr1 : Kd.C (Kd.int .i64) w A1 l1.length l1) (hc1 : l1.length ≤ c1) (h : spec_l03Fold.f k a0_0 a0_1 l1 = some r) :
 Calls Try.prog 25 #[.agg #[.int .i64 a0_0, .int .i64 a0_1], .slice A1 l1.length c1] w fun e w' => ∃ v0_ : Value, e = .returned (v0_) ∧ Kd.R (Kd.int .i64) 2 w' w.heap.size (fun _ => True) v0_ r ∧ Below w.heap.size w w' := by
 have hu27 := Try.underlying27
 have HR1 := Aq.mk hr1
 have HC1 := Aq.mk hc1
 clear hr1 hc1
 have HB := Aq.mk (Below.refl w.heap.size w)
 have H : (if 0 ≤ a0_0 then (if (a0_0 : Int).toNat ≤ 35184372088832 then (spec_l03Fold.l0 k l1 (List.replicate (a0_0 : Int).toNat 0) 0 a0_0 a0_1) else (none)) else (none)) = some r := h
 clear h
 by_cases c3 : 0 ≤ a0_0
 rotate_left
 ·rw [if_neg c3] at H
  exact absurd H (by simp)
 rw [if_pos c3] at H
 have c3b0 := eq_true c3
 have c3b1 := decide_eq_true c3
 clear c3
 by_cases c4 : (a0_0 : Int).toNat ≤ 35184372088832
 rotate_left
 ·rw [if_neg c4] at H
  exact absurd H (by simp)
 rw [if_pos c4] at H
 have c4b0 := eq_true c4
 have c4b1 := decide_eq_true c4
 clear c4
 obtain ⟨y139, hy139⟩ : ∃ y_ : List Int, y_ = (List.replicate (a0_0 : Int).toNat 0) := ⟨_, rfl⟩
 replace H : (spec_l03Fold.l0 k l1 y139 0 a0_0 a0_1) = some r := by first | (rw [hy139]; with_reducible exact H) | (have H2_ := (Option.bind_some _ _).symm.trans H; rw [hy139]; with_reducible exact H2_) | (have H2_ := (Option.bind_some _ _).symm.trans H; with_reducible exact H2_) | with_reducible exact H | (rw [hy139]; exact H) | exact H
 have Ny139 := Aq.mk hy139
 clear hy139
 replace H' := Aq.mk H
 clear H
 go_enter Try.func25, Try.ntmps25
 go_wp2_with (first | ((with_reducible refine gQd (N := 2) rfl ?_); refine xQe ?hg (N := 2) ?hd (cs := #[.int .i64 a0_0, .int .i64 a0_1]) (t := 27) ?hr ?_; (case hd => rfl); (case hg => rfl); (case hr => exact tH); intro gb138 hg w5 hbox hb; refine qM4 (bQT tB hb) hbox (tZ w hg) (tZ w hg) ?_; clear HB; intro HB BK138 GW138 GE138; clear hb hbox hg; have hcz6_0 : w5.cell? ⟨gb138, 0, none⟩ = some (.int .i64 a0_0) := (kQC BK138.out 0).trans rfl; have hcz6_1 : w5.cell? ⟨gb138, 1, none⟩ = some (.int .i64 a0_1) := (kQC BK138.out 1).trans rfl; have hfz6_0 := kQF BK138.out 0; have hfz6_1 := kQF BK138.out 1) | ((with_reducible refine gQd (N := 9) rfl ?_); refine Kd.R_make (Kd.int .i64) _ 2 rfl (N := 9) rfl 24 _ _ rfl a0_0 rfl rfl Try.underlying24 (.int .i64 0) 8 info2 rfl (by decide) (by omega) 0 (ok := fun _ => True) (okp := fun _ => True) rfl (fun _ hk => hk) trivial (of_decide_eq_true tA) (Nat.le_trans (Nat.mul_le_mul_right _ (of_decide_eq_true tA : a0_0.toNat ≤ 35184372088832)) (by omega)) (Below.refl _ _) (Nat.le_refl _) ?_; intro v140 w7 ho8 hb hg_ hnew_; clear hg_ hnew_; (first | rw [← Ny139.out] at ho8 | (simp only [Int.reduceToNat] at ho8; rw [← Ny139.out] at ho8)); refine qM3 (Kd.R_lower ho8 (bQZ tB)) (tQ BK138.out hb) (bQT tB hb) ?_; clear BK138 HB; intro HO141 BK138 HB; clear hb ho8))
 go_loopg [6] k (fun kq v6 w' => ∃ (x5_1 : List Int) (x6_1 : Int), v6 = .int .i64 x6_1 ∧ Aq (spec_l03Fold.l0 kq l1 x5_1 x6_1 a0_0 a0_1 = some r) ∧ Aq (kq ≤ k) ∧ Aq (Kd.R (Kd.int .i64) 2 w' w.heap.size (fun _ => True) v140 x5_1) ∧ Aq (w'.heap[gb138]? = some (.cells #[.int .i64 a0_0, .int .i64 a0_1] 27 (0, 0))) ∧ Aq (Below w.heap.size w w'))
 case atStart => exact ⟨(y139), (0), tS, H', ⟨Nat.le_refl _⟩, ⟨tR HO141.out⟩, ⟨tG BK138.out⟩, ⟨tB⟩⟩
 clear H'
 try clear c1
 try clear c3
 try clear c3b0
 try clear c3b1
 try clear c4
 try clear c4b0
 try clear c4b1
 try clear hcz6_0
 try clear hcz6_1
 try clear hfz6_0
 try clear hfz6_1
 obtain ⟨x5_1, x6_1, rfl, HA, HK1, HO_5, BK138, HB⟩ := hrel
 cases gk with
 | zero => exact absurd HA.out (by simp [spec_l03Fold.l0])
 | succ k1 =>
  have H := HA.out
  clear HA
  simp only [spec_l03Fold.l0] at H
  by_cases c9 : x6_1 < (l1.length : Int)
  rotate_left
  ·rw [if_neg c9] at H
   have c9b0 := decide_eq_false c9
   clear c9
   obtain ⟨t145, A19, H⟩ := qBd H
   obtain rfl := Option.some.inj H
   obtain ⟨Ao20, co20, eo20⟩ := Kd.R_slice HO_5.out
   subst eo20
   go_wp2_with (first | ((with_reducible refine gQc (f := 27) rfl ?_); refine goesL_ (some 30) rfl rfl Try.func27 (by kernel_rfl) rfl #[.slice Ao20 x5_1.length co20] rfl tL ?_; (with_reducible refine (spec_l03Trim.calls k1 _ _ x5_1 t145 _ ?s1 ?s2 A19.out).mono ?_); (case s1 => exact tC ((Kd.R_reads' HO_5.out).2.2)); (case s2 => exact (Kd.R_reads' HO_5.out).2.1); rintro e w21 ⟨v146, rfl, ho0, hb⟩; refine ⟨_, rfl, ?_⟩; refine qM4 (Kd.R_elder' (tR HO_5.out) (Kd.R_base ho0) hb) (Kd.R_lower (Kd.R_new' ho0 (Kd.R_lt (tR HO_5.out))) (bQZ tB)) (tQ BK138.out hb) (bQT tB hb) ?_; clear HO_5 BK138 HB; intro HO_5 HO147 BK138 HB; (try clear hb); (try clear hb2); (try clear hk); (try clear hi); (try clear ho0)))
   go_ret
   exact ⟨_, tE, by (with_reducible repeat (first | apply Kd.RqA | apply Kd.RqN | apply Kd.RqD)); exact Kd.R_mono HO147.out (fun _ hk => trivial), tB⟩
  rw [if_pos c9] at H
  have c9b0 := decide_eq_true c9
  clear c9
  by_cases c10 : a0_0 = 0
  ·rw [if_pos c10] at H
   exact absurd H (by simp)
  rw [if_neg c10] at H
  have c10b0 := beq_eq_false_iff_ne.mpr c10
  have c10b1 := bne_iff_ne.mpr c10
  obtain ⟨ji11, hji11⟩ : ∃ j_ : Int, (Int.tmod x6_1 a0_0) = j_ := ⟨_, rfl⟩
  first | rw [hji11] at H | simp only [hji11] at H | skip
  by_cases c12 : 0 ≤ (ji11)
  rotate_left
  ·rw [if_neg c12] at H
   exact absurd H (by simp)
  rw [if_pos c12] at H
  have c12b0 := decide_eq_true c12
  clear c12
  by_cases c13 : (ji11) < (x5_1.length : Int)
  rotate_left
  ·rw [if_neg c13] at H
   exact absurd H (by simp)
  rw [if_pos c13] at H
  have c13b0 := decide_eq_true c13
  clear c13
  by_cases c14 : 0 ≤ x6_1
  rotate_left
  ·rw [if_neg c14] at H
   exact absurd H (by simp)
  rw [if_pos c14] at H
  have c14b0 := decide_eq_true c14
  clear c14
  obtain ⟨y144, hy144⟩ : ∃ y_ : List Int, y_ = (x5_1.set ((ji11) : Int).toNat (Go.bits .xor .i64 (rd x5_1 (ji11)) (rd l1 x6_1))) := ⟨_, rfl⟩
  replace H : (spec_l03Fold.l0 k1 l1 y144 (wrap64 (x6_1 + 1)) a0_0 a0_1) = some r := by first | (rw [hy144]; with_reducible exact H) | (have H2_ := (Option.bind_some _ _).symm.trans H; rw [hy144]; with_reducible exact H2_) | (have H2_ := (Option.bind_some _ _).symm.trans H; with_reducible exact H2_) | with_reducible exact H | (rw [hy144]; exact H) | exact H
  have Ny144 := Aq.mk hy144
  clear hy144
  replace H' := Aq.mk H
  clear H
  try go_wp2
  have n0_ := Aq.mk (Kd.RqD HO_5.out)
  have n1_ := Aq.mk (kQD BK138.out)
  have n2_ := Aq.mk (bQ1 HB.out)
  clear HO_5
  clear BK138
  clear HB
  have HO_5 := n0_
  have BK138 := n1_
  have HB := n2_
  clear n0_ n1_ n2_
  obtain ⟨Ao17, co17, eo17⟩ := Kd.R_slice HO_5.out
  (first | subst eo17 | (injection eo17 with f1_ f2_ f3_; have f4_ := f1_.symm; have f5_ := f3_.symm; clear f1_ f2_ f3_; subst f4_; subst f5_))
  have p142 : 0 ≤ ((ji11) : Int) := of_decide_eq_true tA
  have q142 : (ji11) < (x5_1.length : Int) := of_decide_eq_true tA
  obtain ⟨ad142, e142, hx142_0⟩ := Kd.at_int (Kd.R_reads' HO_5.out).2.2 (ji11) p142 q142
  cases e142
  replace p142 := eq_true p142
  replace q142 := eq_true q142
  have p143 : 0 ≤ (x6_1 : Int) := of_decide_eq_true tA
  have q143 : x6_1 < (l1.length : Int) := of_decide_eq_true tA
  obtain ⟨ad143, e143, hx143_0⟩ := Kd.at_int HR1.out x6_1 p143 q143
  have hw143_0 := hx143_0
  cases e143
  replace hx143_0 := (HB.out.cell (World.block_lt_of_cell? w _ hx143_0)).trans hx143_0
  replace p143 := eq_true p143
  replace q143 := eq_true q143
  have p15 : 0 ≤ ((ji11) : Int) := of_decide_eq_true tA
  have q15 : ((ji11) : Int) < ((x5_1.length : Int) : Int) := of_decide_eq_true tA
  obtain ⟨go15, co15, eo15, gb15, gl15, cl15, HG15⟩ := Kd.R_form HO_5.out (by omega)
  (first | cases eo15 | (injection eo15 with ea_ en_ ec_; (first | subst ea_ | (injection ea_ with ea_; subst ea_)); subst ec_; clear en_))
  have GB15 := Aq.mk gb15
  have GG15 := Aq.mk HG15
  clear gb15 gl15 HG15
  (first | simp only [add_plain] at hx142_0 | skip)
  obtain ⟨hx15_0, hf15_0⟩ := Kd.R_celln 0 HO_5.out ((ji11) : Int) p15 q15
  replace p15 := eq_true p15
  replace q15 := eq_true q15
  have HP18 := Kd.R_putn HO_5.out ((ji11) : Int) (Go.bits .xor .i64 (rd x5_1 (ji11)) (rd l1 x6_1))
  rw [← Ny144.out] at HP18
  have HQ18 := Aq.mk HP18
  clear HP18
  refine start_ (n := 14) (S := fun w' => w'.cell? ⟨gb138, 0, none⟩ = some (.int .i64 a0_0) ∧ w'.cell? ⟨gb138, 1, none⟩ = some (.int .i64 a0_1) ∧ w'.cell? ⟨go15, ((ji11)).toNat, none⟩ = some (.int .i64 (rd x5_1 (ji11))) ∧ w'.cell? (ad143.add (x6_1).toNat) = some (.int .i64 (rd l1 x6_1))) (ds := [13]) #[false, false, false, false, false, false, false, false, false, false, false, false, false, false] (by kernel_rfl) rfl rfl ⟨(kQC BK138.out 0).trans rfl, (kQC BK138.out 1).trans rfl, hx142_0, (tcw tB hw143_0)⟩ (fun hHeld => ?_); refine with_tabW spec_l03Fold.tab5 spec_l03Fold.bits5 (fun HT_ HW_ => ?_)
  generalize wr.drew = w16 at HO_5 BK138 HB GG15 HQ18 hf15_0 hx142_0 hx143_0 hx15_0 hHeld ⊢
  refine tP0 0 16 (bm 14 1) ?_
  refine tP0 1 17 (bm 14 3) ?_
  refine tP0 2 18 (bm 14 7) ?_
  refine tP0 7 23 (bm 14 135) ?_
  refine tP0 8 24 (bm 14 391) ?_
  refine tP0 9 25 (bm 14 903) ?_
  refine tT4 3 19 (bm 14 911) ?_
  refine tP0 4 20 (bm 14 927) ?_
  refine tP0 5 21 (bm 14 959) ?_
  refine tT4 6 22 (bm 14 1023) ?_
  refine tT4 10 26 (bm 14 2047) ?_
  refine tP0 11 27 (bm 14 4095) ?_
  refine tP0 12 28 (bm 14 8191) ?_
  refine last_ (i := 13) (N := none) #[true, true, true, true, true, true, true, true, true, true, true, true, true, true] rfl rfl (one_of HT_.out (by kernel_rfl)) (by decide) (fun K hK => ?_)
  refine skip_ (w1 := ?_) (by rfl) rfl ?_ ?_
  rotate_left
  ·go_simp
   rfl
  refine hK.out _ _ ?_
  clear hK K
  refine done_ (done_of HT_.out (by kernel_rfl)) ?_
  try go_wp2
  go_roundg k1
  case measure => have := HK1.out; omega
  case rel => exact ⟨(y144), (wrap64 (x6_1 + 1)), tS, H', ⟨by have := HK1.out; omega⟩, ⟨tR HQ18.out⟩, ⟨by (with_reducible repeat (first | refine kQN ?_ _ | refine kQD ?_ | refine kQA ?_ _)); refine kQR ?_ (by have h_ := Kd.R_ne HO_5.out BK138.out (by decide); intro e_; exact h_ (by rw [e_]; rfl)) _; (with_reducible repeat (first | refine kQN ?_ _ | refine kQD ?_ | refine kQA ?_ _)); exact BK138.out⟩, ⟨by repeat (first | (with_reducible first | exact HB.out | apply bQA | apply bQN | apply bQ1 | refine bQS ?_ GB15.out | refine bQS ?_ GE138.out) | exact HB.out)⟩⟩
end Go.Proofs.Ytpigghpimgkilaa.P
