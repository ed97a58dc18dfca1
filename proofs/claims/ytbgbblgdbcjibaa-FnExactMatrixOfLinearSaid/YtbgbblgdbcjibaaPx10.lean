/- Functions of the program and what they tell, as the printing program wrote it. -/
import Derived.Test.YtbgbblgdbcjibaaPx0
import Derived.Test.YtbgbblgdbcjibaaPx1
namespace Go.Proofs.Ytbgbblgdbcjibaa.P
open Go.Shelf Go.RowKit Go.Proofs.YtbgbblgdbcjibaaW.PrintWords Go.Proofs.YtbgbblgdbcjibaaW.PrintLast Go.Proofs.YtbgbblgdbcjibaaW.PrintMore
attribute [local go_sem] max2_int min2_int max_two min_two max_three min_three max_four min_four
set_option linter.unusedVariables false
set_option linter.unusedSimpArgs false
set_option maxHeartbeats 8000000
set_option maxRecDepth 100000
def spec_l01List.l0 : Nat → List Int → Int → Int → Int → Option (Int)
  | 0, _, _, _, _ => none
  | k + 1, x1, x5, x272000, x272001 => if x5 < (x1.length : Int) then (if 0 ≤ x5 then ((spec_l01Size.f x272000 x272001).bind fun t274 => ((spec_l00In.f (rd x1 x5) 0 (wrap64 (t274 - 1))).bind fun t275 => (if t275 = true then (spec_l01List.l0 k x1 (wrap64 (x5 + 1)) x272000 x272001) else (some 2)))) else (none)) else (some 0)
def spec_l01List.f (k : Nat) (a0_0 : Int) (a0_1 : Int) (l1 : List Int) : Option (Int) := (spec_l01Ok.f k a0_0 a0_1).bind fun t272 => (if t272 = true then (spec_l01List.l0 k l1 0 a0_0 a0_1) else (some 1))
theorem spec_l01List.mono_l : ∀ k, (∀ y0 y1 y2 y3, LeO (spec_l01List.l0 k y0 y1 y2 y3) (spec_l01List.l0 (k + 1) y0 y1 y2 y3))
 | 0 => fun _ _ _ _ r h => by simp [spec_l01List.l0] at h
 | k + 1 => by
  have ih0 := spec_l01List.mono_l k
  ·intro y0 y1 y2 y3
   unfold spec_l01List.l0
   repeat' first
   | (with_reducible first | apply ih0 | apply spec_l01Ok.mono | exact LeO.refl _ | exact LeO.none _ | refine LeO.ite ?_ ?_ | refine LeO.bind ?_ (fun _ => ?_))
   | exact LeO.none _
   | refine LeO.ite ?_ ?_
   | refine LeO.bind ?_ (fun _ => ?_)
theorem spec_l01List.mono : ∀ a0 a1 a2 k, LeO (spec_l01List.f k a0 a1 a2) (spec_l01List.f (k + 1) a0 a1 a2) := by
 intro a0 a1 a2 k
 have ih0 := spec_l01List.mono_l k
 unfold spec_l01List.f
 repeat' first
  | (with_reducible first | apply ih0 | apply spec_l01Ok.mono | exact LeO.refl _ | exact LeO.none _ | refine LeO.ite ?_ ?_ | refine LeO.bind ?_ (fun _ => ?_))
  | exact LeO.none _
  | refine LeO.ite ?_ ?_
  | refine LeO.bind ?_ (fun _ => ?_)
def spec_l01List.T6 : Bool × List (List Nat × List Nat) := (true, [([], []), ([], []), ([0, 1], [0, 1]), ([2], [2]), ([], []), ([4], [4]), ([5], [5]), ([3, 6, 5], [3, 6]), ([7], [7])])
def spec_l01List.B6 : List Nat := [0, 0, 3, 7, 0, 16, 48, 127, 255]
theorem spec_l01List.tab6 : rtab .any (opsOf Try.f43 6) = spec_l01List.T6 := by kernel_rfl
theorem spec_l01List.bits6 : waitsOk spec_l01List.T6.2 spec_l01List.B6 = true := by kernel_rfl
theorem spec_l01List.calls (k : Nat) (a0_0 : Int) (a0_1 : Int) (A1 : Option Addr) (c1 : Nat) (l1 : List Int) (r : Int) (w : World) (hr1 : Kd.C (Kd.int .i64) w A1 l1.length l1) (hc1 : l1.length ≤ c1) (h : spec_l01List.f k a0_0 a0_1 l1 = some r) :
 Calls Try.prog 43 #[.agg #[.int .i64 a0_0, .int .i64 a0_1], .slice A1 l1.length c1] w fun e w' => e = .returned (.int .i64 r) ∧ Below w.heap.size w w' := by
 have hu26 := Try.underlying26
 have HR1 := Aq.mk hr1
 have HC1 := Aq.mk hc1
 clear hr1 hc1
 have HB := Aq.mk (Below.refl w.heap.size w)
 have H : ((spec_l01Ok.f k a0_0 a0_1).bind fun t272 => (if t272 = true then (spec_l01List.l0 k l1 0 a0_0 a0_1) else (some 1))) = some r := h
 clear h
 obtain ⟨t272, A3, H⟩ := qBd H
 by_cases c4 : t272 = true
 rotate_left
 ·replace c4 := Bool.eq_false_iff.mpr c4
  subst c4
  rw [if_neg (show ¬ (false = true) by decide)] at H
  obtain rfl := Option.some.inj H
  go_enter Try.func43, Try.ntmps43
  go_wp2_with (first | ((with_reducible refine gQd (N := 2) rfl ?_); refine xQe ?hg (N := 2) ?hd (cs := #[.int .i64 a0_0, .int .i64 a0_1]) (t := 26) ?hr ?_; (case hd => rfl); (case hg => rfl); (case hr => exact tH); intro gb271 hg w17 hbox hb; refine qM4 (bQT tB hb) hbox (tZ w hg) (tZ w hg) ?_; clear HB; intro HB BK271 GW271 GE271; clear hb hbox hg; have hcz18_0 : w17.cell? ⟨gb271, 0, none⟩ = some (.int .i64 a0_0) := (kQC BK271.out 0).trans rfl; have hcz18_1 : w17.cell? ⟨gb271, 1, none⟩ = some (.int .i64 a0_1) := (kQC BK271.out 1).trans rfl; have hfz18_0 := kQF BK271.out 0; have hfz18_1 := kQF BK271.out 1) | ((with_reducible refine gQc (f := 29) rfl ?_); refine goesL_ (some 7) rfl rfl Try.func29 (by kernel_rfl) rfl #[.agg #[.int .i64 a0_0, .int .i64 a0_1]] rfl tL ?_; (with_reducible refine (spec_l01Ok.calls k a0_0 a0_1 false _ A3.out).mono ?_); rintro e w19 ⟨rfl, hb⟩; refine ⟨_, rfl, ?_⟩; refine qM2 (tQ BK271.out hb) (bQT tB hb) ?_; clear BK271 HB; intro BK271 HB; (try clear hb); (try clear hb2); (try clear hk); (try clear hi)))
  go_ret
  exact ⟨tE, tB⟩
 subst c4
 rw [if_pos rfl] at H
 replace H' := Aq.mk H
 clear H
 go_enter Try.func43, Try.ntmps43
 go_wp2_with (first | ((with_reducible refine gQd (N := 2) rfl ?_); refine xQe ?hg (N := 2) ?hd (cs := #[.int .i64 a0_0, .int .i64 a0_1]) (t := 26) ?hr ?_; (case hd => rfl); (case hg => rfl); (case hr => exact tH); intro gb271 hg w5 hbox hb; refine qM4 (bQT tB hb) hbox (tZ w hg) (tZ w hg) ?_; clear HB; intro HB BK271 GW271 GE271; clear hb hbox hg; have hcz6_0 : w5.cell? ⟨gb271, 0, none⟩ = some (.int .i64 a0_0) := (kQC BK271.out 0).trans rfl; have hcz6_1 : w5.cell? ⟨gb271, 1, none⟩ = some (.int .i64 a0_1) := (kQC BK271.out 1).trans rfl; have hfz6_0 := kQF BK271.out 0; have hfz6_1 := kQF BK271.out 1) | ((with_reducible refine gQc (f := 29) rfl ?_); refine goesL_ (some 7) rfl rfl Try.func29 (by kernel_rfl) rfl #[.agg #[.int .i64 a0_0, .int .i64 a0_1]] rfl tL ?_; (with_reducible refine (spec_l01Ok.calls k a0_0 a0_1 true _ A3.out).mono ?_); rintro e w7 ⟨rfl, hb⟩; refine ⟨_, rfl, ?_⟩; refine qM2 (tQ BK271.out hb) (bQT tB hb) ?_; clear BK271 HB; intro BK271 HB; (try clear hb); (try clear hb2); (try clear hk); (try clear hi)))
 go_loopg [5] k (fun kq v5 w' => ∃ (x5_1 : Int), v5 = .int .i64 x5_1 ∧ Aq (spec_l01List.l0 kq l1 x5_1 a0_0 a0_1 = some r) ∧ Aq (kq ≤ k) ∧ Aq (w'.heap[gb271]? = some (.cells #[.int .i64 a0_0, .int .i64 a0_1] 26 (0, 0))) ∧ Aq (Below w.heap.size w w'))
 case atStart => exact ⟨(0), tS, H', ⟨Nat.le_refl _⟩, ⟨tG BK271.out⟩, ⟨tB⟩⟩
 clear H'
 try clear c1
 try clear c4
 try clear hcz6_0
 try clear hcz6_1
 try clear hfz6_0
 try clear hfz6_1
 obtain ⟨x5_1, rfl, HA, HK1, BK271, HB⟩ := hrel
 cases gk with
 | zero => exact absurd HA.out (by simp [spec_l01List.l0])
 | succ k1 =>
  have H := HA.out
  clear HA
  simp only [spec_l01List.l0] at H
  by_cases c8 : x5_1 < (l1.length : Int)
  rotate_left
  ·rw [if_neg c8] at H
   have c8b0 := decide_eq_false c8
   clear c8
   obtain rfl := Option.some.inj H
   go_wp2
   go_ret
   exact ⟨tE, tB⟩
  rw [if_pos c8] at H
  have c8b0 := decide_eq_true c8
  clear c8
  by_cases c9 : 0 ≤ x5_1
  rotate_left
  ·rw [if_neg c9] at H
   exact absurd H (by simp)
  rw [if_pos c9] at H
  have c9b0 := decide_eq_true c9
  clear c9
  obtain ⟨t274, A10, H⟩ := qBd H
  obtain ⟨t275, A11, H⟩ := qBd H
  by_cases c12 : t275 = true
  ·subst c12
   rw [if_pos rfl] at H
   replace H' := Aq.mk H
   clear H
   try go_wp2
   have n0_ := Aq.mk (kQD BK271.out)
   have n1_ := Aq.mk (bQ1 HB.out)
   clear BK271
   clear HB
   have BK271 := n0_
   have HB := n1_
   clear n0_ n1_
   have p273 : 0 ≤ (x5_1 : Int) := of_decide_eq_true tA
   have q273 : x5_1 < (l1.length : Int) := of_decide_eq_true tA
   obtain ⟨ad273, e273, hx273_0⟩ := Kd.at_int HR1.out x5_1 p273 q273
   have hw273_0 := hx273_0
   cases e273
   replace hx273_0 := (HB.out.cell (World.block_lt_of_cell? w _ hx273_0)).trans hx273_0
   replace p273 := eq_true p273
   replace q273 := eq_true q273
   refine start_ (n := 9) (S := fun w' => w'.cell? ⟨gb271, 0, none⟩ = some (.int .i64 a0_0) ∧ w'.cell? ⟨gb271, 1, none⟩ = some (.int .i64 a0_1) ∧ w'.cell? (ad273.add (x5_1).toNat) = some (.int .i64 (rd l1 x5_1))) (ds := []) #[false, false, false, false, false, false, false, false, false] (by kernel_rfl) rfl rfl ⟨(kQC BK271.out 0).trans rfl, (kQC BK271.out 1).trans rfl, (tcw tB hw273_0)⟩ (fun hHeld => ?_); refine with_tabW spec_l01List.tab6 spec_l01List.bits6 (fun HT_ HW_ => ?_)
   generalize wr.drew = w13 at BK271 HB hx273_0 hHeld ⊢
   refine tP0 0 15 (bm 9 1) ?_
   refine tP0 1 16 (bm 9 3) ?_
   refine tP0 2 17 (bm 9 7) ?_
   refine tT3 3 18 (bm 9 15) ?_
   refine tT3 4 19 (bm 9 31) ?_
   refine one_ (i := 5) (N := some 20) (bm 9 63) rfl rfl (one_of HT_.out (by kernel_rfl)) (by decide) (fun K hK => ?_)
   refine goes_ Try.func36 (by kernel_rfl) rfl #[.agg #[.int .i64 a0_0, .int .i64 a0_1]] (by rfl) rfl rfl tL ?_
   with_reducible refine (spec_l01Size.calls a0_0 a0_1 t274 _ A10.out).mono ?_
   rintro e w14 ⟨rfl, hb⟩
   refine ⟨_, rfl, ?_⟩
   have n0_ := Aq.mk (tQ BK271.out hb)
   have n1_ := Aq.mk (bQT tB hb)
   clear BK271
   clear HB
   have BK271 := n0_
   have HB := n1_
   clear n0_ n1_
   (try clear hb)
   (try clear hb2)
   (try clear hk)
   (try clear hi)
   refine hK.out _ _ ⟨(kQC BK271.out 0).trans rfl, (kQC BK271.out 1).trans rfl, (tcw tB hw273_0)⟩ (fun hHeld => ?_)
   clear hK K
   refine tN 20 ?_
   refine tP0 6 21 (bm 9 127) ?_
   refine one_ (i := 7) (N := some 22) (bm 9 255) rfl rfl (one_of HT_.out (by kernel_rfl)) (by decide) (fun K hK => ?_)
   refine goes_ Try.func35 (by kernel_rfl) rfl #[.int .i64 (rd l1 x5_1), .int .i64 0, .int .i64 (wrap64 (t274 - 1))] (by rfl) rfl rfl tL ?_
   with_reducible refine (spec_l00In.calls (rd l1 x5_1) 0 (wrap64 (t274 - 1)) true _ A11.out).mono ?_
   rintro e w' ⟨rfl, ⟨nd, rfl⟩⟩
   refine ⟨_, rfl, ?_⟩
   refine hK.out _ _ ⟨(kQC BK271.out 0).trans rfl, (kQC BK271.out 1).trans rfl, (tcw tB hw273_0)⟩ (fun hHeld => ?_)
   clear hK K
   refine tN 22 ?_
   refine tP0 8 23 (bm 9 511) ?_
   refine done_ (done_of HT_.out (by kernel_rfl)) ?_
   try go_wp2
   go_roundg k1
   case measure => have := HK1.out; omega
   case rel => exact ⟨(wrap64 (x5_1 + 1)), tS, H', ⟨by have := HK1.out; omega⟩, ⟨tG BK271.out⟩, ⟨tB⟩⟩
  replace c12 := Bool.eq_false_iff.mpr c12
  subst c12
  rw [if_neg (show ¬ (false = true) by decide)] at H
  obtain rfl := Option.some.inj H
  try go_wp2
  have n0_ := Aq.mk (kQD BK271.out)
  have n1_ := Aq.mk (bQ1 HB.out)
  clear BK271
  clear HB
  have BK271 := n0_
  have HB := n1_
  clear n0_ n1_
  have p273 : 0 ≤ (x5_1 : Int) := of_decide_eq_true tA
  have q273 : x5_1 < (l1.length : Int) := of_decide_eq_true tA
  obtain ⟨ad273, e273, hx273_0⟩ := Kd.at_int HR1.out x5_1 p273 q273
  have hw273_0 := hx273_0
  cases e273
  replace hx273_0 := (HB.out.cell (World.block_lt_of_cell? w _ hx273_0)).trans hx273_0
  replace p273 := eq_true p273
  replace q273 := eq_true q273
  refine start_ (n := 9) (S := fun w' => w'.cell? ⟨gb271, 0, none⟩ = some (.int .i64 a0_0) ∧ w'.cell? ⟨gb271, 1, none⟩ = some (.int .i64 a0_1) ∧ w'.cell? (ad273.add (x5_1).toNat) = some (.int .i64 (rd l1 x5_1))) (ds := []) #[false, false, false, false, false, false, false, false, false] (by kernel_rfl) rfl rfl ⟨(kQC BK271.out 0).trans rfl, (kQC BK271.out 1).trans rfl, (tcw tB hw273_0)⟩ (fun hHeld => ?_); refine with_tabW spec_l01List.tab6 spec_l01List.bits6 (fun HT_ HW_ => ?_)
  generalize wr.drew = w15 at BK271 HB hx273_0 hHeld ⊢
  refine tP0 0 15 (bm 9 1) ?_
  refine tP0 1 16 (bm 9 3) ?_
  refine tP0 2 17 (bm 9 7) ?_
  refine tT3 3 18 (bm 9 15) ?_
  refine tT3 4 19 (bm 9 31) ?_
  refine one_ (i := 5) (N := some 20) (bm 9 63) rfl rfl (one_of HT_.out (by kernel_rfl)) (by decide) (fun K hK => ?_)
  refine goes_ Try.func36 (by kernel_rfl) rfl #[.agg #[.int .i64 a0_0, .int .i64 a0_1]] (by rfl) rfl rfl tL ?_
  with_reducible refine (spec_l01Size.calls a0_0 a0_1 t274 _ A10.out).mono ?_
  rintro e w16 ⟨rfl, hb⟩
  refine ⟨_, rfl, ?_⟩
  have n0_ := Aq.mk (tQ BK271.out hb)
  have n1_ := Aq.mk (bQT tB hb)
  clear BK271
  clear HB
  have BK271 := n0_
  have HB := n1_
  clear n0_ n1_
  (try clear hb)
  (try clear hb2)
  (try clear hk)
  (try clear hi)
  refine hK.out _ _ ⟨(kQC BK271.out 0).trans rfl, (kQC BK271.out 1).trans rfl, (tcw tB hw273_0)⟩ (fun hHeld => ?_)
  clear hK K
  refine tN 20 ?_
  refine tP0 6 21 (bm 9 127) ?_
  refine one_ (i := 7) (N := some 22) (bm 9 255) rfl rfl (one_of HT_.out (by kernel_rfl)) (by decide) (fun K hK => ?_)
  refine goes_ Try.func35 (by kernel_rfl) rfl #[.int .i64 (rd l1 x5_1), .int .i64 0, .int .i64 (wrap64 (t274 - 1))] (by rfl) rfl rfl tL ?_
  with_reducible refine (spec_l00In.calls (rd l1 x5_1) 0 (wrap64 (t274 - 1)) false _ A11.out).mono ?_
  rintro e w' ⟨rfl, ⟨nd, rfl⟩⟩
  refine ⟨_, rfl, ?_⟩
  refine hK.out _ _ ⟨(kQC BK271.out 0).trans rfl, (kQC BK271.out 1).trans rfl, (tcw tB hw273_0)⟩ (fun hHeld => ?_)
  clear hK K
  refine tN 22 ?_
  refine tP0 8 23 (bm 9 511) ?_
  refine done_ (done_of HT_.out (by kernel_rfl)) ?_
  try go_wp2
  go_ret
  exact ⟨tE, tB⟩
def slices_Clone_int64_int64.f (l0 : List Int) : Option (List Int) := if l0.length ≤ 17592186044416 then some l0 else none
theorem slices_Clone_int64_int64.calls (A0 : Option Addr) (c0 : Nat) (l0 : List Int) (r : List Int) (w : World) (hr0 : Kd.C (Kd.int .i64) w A0 l0.length l0) (hc0 : l0.length ≤ c0) (h : slices_Clone_int64_int64.f l0 = some r) :
 Calls Try.prog 68 #[.slice A0 l0.length c0] w fun e w' => ∃ v0_ : Value, e = .returned (v0_) ∧ Kd.R (Kd.int .i64) 2 w' w.heap.size (fun _ => True) v0_ r ∧ Below w.heap.size w w' := by
 have hn := hr0.2.1
 unfold slices_Clone_int64_int64.f at h
 split at h
 case isFalse => cases h
 rename_i hb
 obtain rfl := Option.some.inj h
 have u22 : ∀ w, Sem.run Try.prog (underlying 29) w = .ok (TypeDesc.slice 2) w := run_underlying Try.underlying29
 cases hA : A0 with
 | none =>
  have hl : l0.length = 0 := by
   rcases Nat.eq_zero_or_pos l0.length with h0 | h0
   ·exact h0
   obtain ⟨ad, e, _⟩ := hr0.2.2 h0
   rw [hA] at e; cases e
  have hl0 : l0 = [] := List.length_eq_zero_iff.1 hl
  subst hl0
  have q22 : ∀ (w : World) (n c n' c' : Nat), (binOp .eql 29 (.slice none n c) (.slice none n' c')).run Try.prog w = .ok (.bool true) w := fun w n c n' c' => Lib.run_eql_slice_nil w _ _ none n c n' c' Try.underlying29
  clear hr0 hA hc0 hn hb h hl
  go_enter Try.func68, Try.ntmps68
  go_wp2
  go_ret
  exact ⟨_, rfl, Kd.R_nil _ _ _ _ _, Below.refl _ _⟩
 | some ad =>
  subst hA
  have q22 : ∀ (w : World) (n c n' c' : Nat), (binOp .eql 29 (.slice (some ad) n c) (.slice none n' c')).run Try.prog w = .ok (.bool false) w := fun w n c n' c' => Lib.run_eql_slice_nil w _ _ (some ad) n c n' c' Try.underlying29
  have HC := Aq.mk (show ∀ j u, (encs (Value.int .i64) l0)[j]? = some u → w.cell? (ad.add j) = some u from fun j u hj => by
   simp only [encs, List.getElem?_map] at hj
   obtain ⟨x, hx, rfl⟩ := Option.map_eq_some_iff.1 hj
   have hlt := (List.getElem?_eq_some_iff.1 hx).1
   obtain ⟨ad', e, hcell⟩ := Kd.at_int hr0 (j : Int) (by omega) (by omega)
   cases e
   rw [rd_at l0 j hlt, Int.toNat_natCast] at hcell
   rw [hcell, ← (List.getElem?_eq_some_iff.1 hx).2])
  obtain ⟨i0, hi, hz0, hz1, hz2⟩ := info_parts (show (Try.prog.info? 2).map (fun i => (i.zero, i.size, i.bytes)) = some (some (.int .i64 0), 1, 8) by kernel_rfl)
  have HN := Aq.mk hb
  have HR := Aq.mk (show (encs (Value.int .i64) l0).length = l0.length by simp [encs])
  clear hr0 hc0 hb h
  generalize hm : l0.length = m at hn HN HR
  have HM := Aq.mk hm
  clear hm
  go_enter Try.func68, Try.ntmps68
  go_wp2_with (at_builtin; refine wpList_append_own _ rfl _ _ 29 rfl w.heap.size 2 i0 (.int .i64 0) 1 8 Try.underlying29 hi hz0 hz1 hz2 rfl (by decide) _ _ _ rfl (World.ownsRow_made w #[] 0 (Nat.le_refl _) (Nat.zero_le _) (by simp)) ad m c0 (encs (Value.int .i64) l0) rfl ?qc1 ?qc2 ?qc3 ?qc4 ?qc5 ?qc6 ?_)
  case qc1 => rw [HR.out]; omega
  case qc2 =>
   intro j u hj
   exact Lib.cell?_alloc_some _ (HC.out j u hj)
  case qc3 =>
   intro u hu
   simp only [encs, List.mem_map] at hu
   obtain ⟨x, _, rfl⟩ := hu
   rfl
  case qc4 => rw [Nat.zero_add]; exact hn
  case qc5 => have := HN.out; omega
  case qc6 => simp
  intro v' w1 hown hgrow hnil
  have HO := Aq.mk hown
  have HG := Aq.mk hgrow
  clear hown hgrow hnil
  go_wp2
  go_ret
  refine ⟨v', rfl, ?_, ((Below.refl _ w).alloc (Nat.le_refl _) _).grown HG.out (by simp) (by intro k hk; simp [Value.ownBlock] at hk; omega)⟩
  exact Kd.R_of_own (h1 := fun _ => rfl) (by have h := HO.out; rw [HM.out]; simpa using h) (fun _ _ => trivial)
end Go.Proofs.Ytbgbblgdbcjibaa.P
