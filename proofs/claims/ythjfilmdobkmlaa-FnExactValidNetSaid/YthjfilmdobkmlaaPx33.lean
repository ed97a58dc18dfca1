/- Functions of the program and what they tell, as the printing program wrote it. -/
import Derived.Test.YthjfilmdobkmlaaPx0
import Derived.Test.YthjfilmdobkmlaaPx12
namespace Go.Proofs.Ythjfilmdobkmlaa.P
open Go.Shelf Go.RowKit Go.Proofs.YthjfilmdobkmlaaW.PrintWords Go.Proofs.YthjfilmdobkmlaaW.PrintLast Go.Proofs.YthjfilmdobkmlaaW.PrintMore
attribute [local go_sem] max2_int min2_int max_two min_two max_three min_three max_four min_four
set_option linter.unusedVariables false
set_option linter.unusedSimpArgs false
set_option maxHeartbeats 8000000
set_option maxRecDepth 100000
def laws_eqField.f (a0_0 : Int) (a0_1 : Int) (a1_0 : Int) (a1_1 : Int) : Option (Bool) := if a0_0 = a1_0 then (if a0_1 = a1_1 then (some true) else (some false)) else (some false)
theorem laws_eqField.calls (a0_0 : Int) (a0_1 : Int) (a1_0 : Int) (a1_1 : Int) (r : Bool) (w : World) (h : laws_eqField.f a0_0 a0_1 a1_0 a1_1 = some r) :
 Calls Try.prog 72 #[.agg #[.int .i64 a0_0, .int .i64 a0_1], .agg #[.int .i64 a1_0, .int .i64 a1_1]] w fun e w' => e = .returned (.bool r) ∧ Below w.heap.size w w' := by
 have hu49 := Try.underlying49
 have HB := Aq.mk (Below.refl w.heap.size w)
 have H : (if a0_0 = a1_0 then (if a0_1 = a1_1 then (some true) else (some false)) else (some false)) = some r := h
 clear h
 by_cases c3 : a0_0 = a1_0
 rotate_left
 ·rw [if_neg c3] at H
  have c3b0 := beq_eq_false_iff_ne.mpr c3
  have c3b1 := bne_iff_ne.mpr c3
  obtain rfl := Option.some.inj H
  go_enter Try.func72, Try.ntmps72
  go_wp2_with (first | ((with_reducible refine gQd (N := 2) rfl ?_); refine xQe ?hg (N := 2) ?hd (cs := #[.int .i64 a0_0, .int .i64 a0_1]) (t := 49) ?hr ?_; (case hd => rfl); (case hg => rfl); (case hr => exact tH); intro gb734 hg w15 hbox hb; refine qM4 (bQT tB hb) hbox (tZ w hg) (tZ w hg) ?_; clear HB; intro HB BK734 GW734 GE734; clear hb hbox hg) | ((with_reducible refine gQd (N := 3) rfl ?_); refine xQe ?hg (N := 3) ?hd (cs := #[.int .i64 a1_0, .int .i64 a1_1]) (t := 49) ?hr ?_; (case hd => rfl); (case hg => rfl); (case hr => exact tH); intro gb735 hg w16 hbox hb; refine qM7 (tQ BK734.out hb) (bQT tB hb) hbox (tZ w hg) (tZ w hg) ((by rw [hg]; exact Nat.ne_of_lt (blk_lt (g := gb734) (o := .cells #[.int .i64 a0_0, .int .i64 a0_1] 49 (0, 0)) (tG BK734.out)) : gb734 ≠ gb735)) ((by rw [hg]; exact Nat.ne_of_gt (blk_lt (g := gb734) (o := .cells #[.int .i64 a0_0, .int .i64 a0_1] 49 (0, 0)) (tG BK734.out)) : gb735 ≠ gb734)) ?_; clear BK734 HB; intro BK734 HB BK735 GW735 GE735 NB734_735 NB735_734; clear hb hbox hg; have hnb17 := NB734_735.out; have hnc17 := NB735_734.out; have hcz18_0 : w16.cell? ⟨gb734, 0, none⟩ = some (.int .i64 a0_0) := (kQC BK734.out 0).trans rfl; have hcz18_1 : w16.cell? ⟨gb734, 1, none⟩ = some (.int .i64 a0_1) := (kQC BK734.out 1).trans rfl; have hfz18_0 := kQF BK734.out 0; have hfz18_1 := kQF BK734.out 1; have hcz19_0 : w16.cell? ⟨gb735, 0, none⟩ = some (.int .i64 a1_0) := (kQC BK735.out 0).trans rfl; have hcz19_1 : w16.cell? ⟨gb735, 1, none⟩ = some (.int .i64 a1_1) := (kQC BK735.out 1).trans rfl; have hfz19_0 := kQF BK735.out 0; have hfz19_1 := kQF BK735.out 1))
  go_ret
  exact ⟨tE, tB⟩
 rw [if_pos c3] at H
 have c3b0 := beq_iff_eq.mpr c3
 have c3b1 := bne_eq_false_iff_eq.mpr c3
 clear c3
 by_cases c4 : a0_1 = a1_1
 ·rw [if_pos c4] at H
  have c4b0 := beq_iff_eq.mpr c4
  have c4b1 := bne_eq_false_iff_eq.mpr c4
  clear c4
  obtain rfl := Option.some.inj H
  go_enter Try.func72, Try.ntmps72
  go_wp2_with (first | ((with_reducible refine gQd (N := 2) rfl ?_); refine xQe ?hg (N := 2) ?hd (cs := #[.int .i64 a0_0, .int .i64 a0_1]) (t := 49) ?hr ?_; (case hd => rfl); (case hg => rfl); (case hr => exact tH); intro gb734 hg w5 hbox hb; refine qM4 (bQT tB hb) hbox (tZ w hg) (tZ w hg) ?_; clear HB; intro HB BK734 GW734 GE734; clear hb hbox hg) | ((with_reducible refine gQd (N := 3) rfl ?_); refine xQe ?hg (N := 3) ?hd (cs := #[.int .i64 a1_0, .int .i64 a1_1]) (t := 49) ?hr ?_; (case hd => rfl); (case hg => rfl); (case hr => exact tH); intro gb735 hg w6 hbox hb; refine qM7 (tQ BK734.out hb) (bQT tB hb) hbox (tZ w hg) (tZ w hg) ((by rw [hg]; exact Nat.ne_of_lt (blk_lt (g := gb734) (o := .cells #[.int .i64 a0_0, .int .i64 a0_1] 49 (0, 0)) (tG BK734.out)) : gb734 ≠ gb735)) ((by rw [hg]; exact Nat.ne_of_gt (blk_lt (g := gb734) (o := .cells #[.int .i64 a0_0, .int .i64 a0_1] 49 (0, 0)) (tG BK734.out)) : gb735 ≠ gb734)) ?_; clear BK734 HB; intro BK734 HB BK735 GW735 GE735 NB734_735 NB735_734; clear hb hbox hg; have hnb7 := NB734_735.out; have hnc7 := NB735_734.out; have hcz8_0 : w6.cell? ⟨gb734, 0, none⟩ = some (.int .i64 a0_0) := (kQC BK734.out 0).trans rfl; have hcz8_1 : w6.cell? ⟨gb734, 1, none⟩ = some (.int .i64 a0_1) := (kQC BK734.out 1).trans rfl; have hfz8_0 := kQF BK734.out 0; have hfz8_1 := kQF BK734.out 1; have hcz9_0 : w6.cell? ⟨gb735, 0, none⟩ = some (.int .i64 a1_0) := (kQC BK735.out 0).trans rfl; have hcz9_1 : w6.cell? ⟨gb735, 1, none⟩ = some (.int .i64 a1_1) := (kQC BK735.out 1).trans rfl; have hfz9_0 := kQF BK735.out 0; have hfz9_1 := kQF BK735.out 1))
  go_ret
  exact ⟨tE, tB⟩
 rw [if_neg c4] at H
 have c4b0 := beq_eq_false_iff_ne.mpr c4
 have c4b1 := bne_iff_ne.mpr c4
 obtain rfl := Option.some.inj H
 go_enter Try.func72, Try.ntmps72
 go_wp2_with (first | ((with_reducible refine gQd (N := 2) rfl ?_); refine xQe ?hg (N := 2) ?hd (cs := #[.int .i64 a0_0, .int .i64 a0_1]) (t := 49) ?hr ?_; (case hd => rfl); (case hg => rfl); (case hr => exact tH); intro gb734 hg w10 hbox hb; refine qM4 (bQT tB hb) hbox (tZ w hg) (tZ w hg) ?_; clear HB; intro HB BK734 GW734 GE734; clear hb hbox hg) | ((with_reducible refine gQd (N := 3) rfl ?_); refine xQe ?hg (N := 3) ?hd (cs := #[.int .i64 a1_0, .int .i64 a1_1]) (t := 49) ?hr ?_; (case hd => rfl); (case hg => rfl); (case hr => exact tH); intro gb735 hg w11 hbox hb; refine qM7 (tQ BK734.out hb) (bQT tB hb) hbox (tZ w hg) (tZ w hg) ((by rw [hg]; exact Nat.ne_of_lt (blk_lt (g := gb734) (o := .cells #[.int .i64 a0_0, .int .i64 a0_1] 49 (0, 0)) (tG BK734.out)) : gb734 ≠ gb735)) ((by rw [hg]; exact Nat.ne_of_gt (blk_lt (g := gb734) (o := .cells #[.int .i64 a0_0, .int .i64 a0_1] 49 (0, 0)) (tG BK734.out)) : gb735 ≠ gb734)) ?_; clear BK734 HB; intro BK734 HB BK735 GW735 GE735 NB734_735 NB735_734; clear hb hbox hg; have hnb12 := NB734_735.out; have hnc12 := NB735_734.out; have hcz13_0 : w11.cell? ⟨gb734, 0, none⟩ = some (.int .i64 a0_0) := (kQC BK734.out 0).trans rfl; have hcz13_1 : w11.cell? ⟨gb734, 1, none⟩ = some (.int .i64 a0_1) := (kQC BK734.out 1).trans rfl; have hfz13_0 := kQF BK734.out 0; have hfz13_1 := kQF BK734.out 1; have hcz14_0 : w11.cell? ⟨gb735, 0, none⟩ = some (.int .i64 a1_0) := (kQC BK735.out 0).trans rfl; have hcz14_1 : w11.cell? ⟨gb735, 1, none⟩ = some (.int .i64 a1_1) := (kQC BK735.out 1).trans rfl; have hfz14_0 := kQF BK735.out 0; have hfz14_1 := kQF BK735.out 1))
 go_ret
 exact ⟨tE, tB⟩
def laws_eqInt64SS.l0 : Nat → List (List Int) → List (List Int) → Int → Option (Bool)
  | 0, _, _, _ => none
  | k + 1, x0, x1, x5 => if x5 < (x0.length : Int) then (if 0 ≤ x5 then (if x5 < (x1.length : Int) then ((laws_eqInt64S.f k (rd_L2 x0 x5) (rd_L2 x1 x5)).bind fun t740 => (if t740 = true then (laws_eqInt64SS.l0 k x0 x1 (wrap64 (x5 + 1))) else (some false))) else (none)) else (none)) else (some true)
def laws_eqInt64SS.f (k : Nat) (l0 : List (List Int)) (l1 : List (List Int)) : Option (Bool) := if (l0.length : Int) = (l1.length : Int) then (laws_eqInt64SS.l0 k l0 l1 0) else (some false)
theorem laws_eqInt64SS.mono_l : ∀ k, (∀ y0 y1 y2, LeO (laws_eqInt64SS.l0 k y0 y1 y2) (laws_eqInt64SS.l0 (k + 1) y0 y1 y2))
 | 0 => fun _ _ _ r h => by simp [laws_eqInt64SS.l0] at h
 | k + 1 => by
  have ih0 := laws_eqInt64SS.mono_l k
  ·intro y0 y1 y2
   unfold laws_eqInt64SS.l0
   repeat' first
   | (with_reducible first | apply ih0 | apply laws_eqInt64S.mono | exact LeO.refl _ | exact LeO.none _ | refine LeO.ite ?_ ?_ | refine LeO.bind ?_ (fun _ => ?_))
   | exact LeO.none _
   | refine LeO.ite ?_ ?_
   | refine LeO.bind ?_ (fun _ => ?_)
theorem laws_eqInt64SS.mono : ∀ a0 a1 k, LeO (laws_eqInt64SS.f k a0 a1) (laws_eqInt64SS.f (k + 1) a0 a1) := by
 intro a0 a1 k
 have ih0 := laws_eqInt64SS.mono_l k
 unfold laws_eqInt64SS.f
 repeat' first
  | (with_reducible first | apply ih0 | apply laws_eqInt64S.mono | exact LeO.refl _ | exact LeO.none _ | refine LeO.ite ?_ ?_ | refine LeO.bind ?_ (fun _ => ?_))
  | exact LeO.none _
  | refine LeO.ite ?_ ?_
  | refine LeO.bind ?_ (fun _ => ?_)
theorem laws_eqInt64SS.calls (k : Nat) (A0 : Option Addr) (c0 : Nat) (l0 : List (List Int)) (A1 : Option Addr) (c1 : Nat) (l1 : List (List Int)) (r : Bool) (w : World) (hr0 : Kd.C (Kd.slice 2 (Kd.int .i64)) w A0 l0.length l0) (hc0 : l0.length ≤ c0) (hr1 : Kd.C (Kd.slice 2 (Kd.int .i64)) w A1 l1.length l1) (hc1 : l1.length ≤ c1) (h : laws_eqInt64SS.f k l0 l1 = some r) :
 Calls Try.prog 73 #[.slice A0 l0.length c0, .slice A1 l1.length c1] w fun e w' => e = .returned (.bool r) ∧ Dq w w' := by
 have HR0 := Aq.mk hr0
 have HC0 := Aq.mk hc0
 clear hr0 hc0
 have HR1 := Aq.mk hr1
 have HC1 := Aq.mk hc1
 clear hr1 hc1
 have H : (if (l0.length : Int) = (l1.length : Int) then (laws_eqInt64SS.l0 k l0 l1 0) else (some false)) = some r := h
 clear h
 by_cases c3 : (l0.length : Int) = (l1.length : Int)
 rotate_left
 ·rw [if_neg c3] at H
  have c3b0 := beq_eq_false_iff_ne.mpr c3
  have c3b1 := bne_iff_ne.mpr c3
  have c3b2 : (l0.length == l1.length) = false := by first | simpa using c3 | (simp at c3 ⊢; omega)
  obtain rfl := Option.some.inj H
  go_enter Try.func73, Try.ntmps73
  go_wp2
  repeat (go_quiet (fail); try go_wp2)
  go_ret
  exact ⟨tS, tD⟩
 rw [if_pos c3] at H
 have c3b0 := beq_iff_eq.mpr c3
 have c3b1 := bne_eq_false_iff_eq.mpr c3
 have c3b2 : (l0.length == l1.length) = true := by first | simpa using c3 | (simp at c3 ⊢; omega)
 clear c3
 replace H' := Aq.mk H
 clear H
 go_enter Try.func73, Try.ntmps73
 go_wp2
 repeat (go_quiet (fail); try go_wp2)
 go_loopg [5] k (fun kq v5 w' => ∃ (x5_1 : Int), v5 = .int .i64 x5_1 ∧ Aq (laws_eqInt64SS.l0 kq l0 l1 x5_1 = some r) ∧ Aq (kq ≤ k) ∧ Dq w w')
 case atStart => exact ⟨(0), tS, H', ⟨Nat.le_refl _⟩, tD⟩
 clear H'
 try clear c1
 try clear c3
 try clear c3b0
 try clear c3b1
 try clear c3b2
 obtain ⟨x5_1, rfl, HA, HK1, ⟨m1, rfl⟩⟩ := hrel
 cases gk with
 | zero => exact absurd HA.out (by simp [laws_eqInt64SS.l0])
 | succ k1 =>
  have H := HA.out
  clear HA
  simp only [laws_eqInt64SS.l0] at H
  by_cases c4 : x5_1 < (l0.length : Int)
  rotate_left
  ·rw [if_neg c4] at H
   have c4b0 := decide_eq_false c4
   clear c4
   obtain rfl := Option.some.inj H
   go_wp2
   repeat (go_quiet (fail); try go_wp2)
   go_ret
   exact ⟨tS, tD⟩
  rw [if_pos c4] at H
  have c4b0 := decide_eq_true c4
  clear c4
  by_cases c5 : 0 ≤ x5_1
  rotate_left
  ·rw [if_neg c5] at H
   exact absurd H (by simp)
  rw [if_pos c5] at H
  have c5b0 := decide_eq_true c5
  clear c5
  by_cases c6 : x5_1 < (l1.length : Int)
  rotate_left
  ·rw [if_neg c6] at H
   exact absurd H (by simp)
  rw [if_pos c6] at H
  have c6b0 := decide_eq_true c6
  clear c6
  obtain ⟨t740, A7, H⟩ := qBd H
  by_cases c8 : t740 = true
  ·subst c8
   rw [if_pos rfl] at H
   replace H' := Aq.mk H
   clear H
   have p738 : 0 ≤ (x5_1 : Int) := of_decide_eq_true tA
   have q738 : x5_1 < (l0.length : Int) := of_decide_eq_true tA
   obtain ⟨ad738, A738_0, c738_0, e738, hx738_0, hl738_0, hi738_0⟩ := at_L2 HR0.out x5_1 p738 q738
   cases e738
   have HR738_0 := Aq.mk hi738_0
   have HC738_0 := Aq.mk hl738_0
   clear hi738_0 hl738_0
   replace p738 := eq_true p738
   replace q738 := eq_true q738
   have p739 : 0 ≤ (x5_1 : Int) := of_decide_eq_true tA
   have q739 : x5_1 < (l1.length : Int) := of_decide_eq_true tA
   obtain ⟨ad739, A739_0, c739_0, e739, hx739_0, hl739_0, hi739_0⟩ := at_L2 HR1.out x5_1 p739 q739
   cases e739
   have HR739_0 := Aq.mk hi739_0
   have HC739_0 := Aq.mk hl739_0
   clear hi739_0 hl739_0
   replace p739 := eq_true p739
   replace q739 := eq_true q739
   go_wp2_with (first | (go_at_call 79; (with_reducible refine (laws_eqInt64S.calls k1 _ _ (rd_L2 l0 x5_1) _ _ (rd_L2 l1 x5_1) true _ ?s1 ?s2 ?s3 ?s4 A7.out).mono ?_); (case s1 => exact tC HR738_0.out); (case s2 => exact HC738_0.out); (case s3 => exact tC HR739_0.out); (case s4 => exact HC739_0.out); rintro e w' ⟨rfl, ⟨nd, rfl⟩⟩; (try exact tW)))
   repeat (go_quiet (first | (go_at_call 79; (with_reducible refine (laws_eqInt64S.calls k1 _ _ (rd_L2 l0 x5_1) _ _ (rd_L2 l1 x5_1) true _ ?s1 ?s2 ?s3 ?s4 A7.out).mono ?_); (case s1 => exact tC HR738_0.out); (case s2 => exact HC738_0.out); (case s3 => exact tC HR739_0.out); (case s4 => exact HC739_0.out); rintro e w' ⟨rfl, ⟨nd, rfl⟩⟩; (try exact tW))); try go_wp2_with (first | (go_at_call 79; (with_reducible refine (laws_eqInt64S.calls k1 _ _ (rd_L2 l0 x5_1) _ _ (rd_L2 l1 x5_1) true _ ?s1 ?s2 ?s3 ?s4 A7.out).mono ?_); (case s1 => exact tC HR738_0.out); (case s2 => exact HC738_0.out); (case s3 => exact tC HR739_0.out); (case s4 => exact HC739_0.out); rintro e w' ⟨rfl, ⟨nd, rfl⟩⟩; (try exact tW))))
   go_roundg k1
   case measure => have := HK1.out; omega
   case rel => exact ⟨(wrap64 (x5_1 + 1)), tS, H', ⟨by have := HK1.out; omega⟩, tD⟩
  replace c8 := Bool.eq_false_iff.mpr c8
  subst c8
  rw [if_neg (show ¬ (false = true) by decide)] at H
  obtain rfl := Option.some.inj H
  have p738 : 0 ≤ (x5_1 : Int) := of_decide_eq_true tA
  have q738 : x5_1 < (l0.length : Int) := of_decide_eq_true tA
  obtain ⟨ad738, A738_0, c738_0, e738, hx738_0, hl738_0, hi738_0⟩ := at_L2 HR0.out x5_1 p738 q738
  cases e738
  have HR738_0 := Aq.mk hi738_0
  have HC738_0 := Aq.mk hl738_0
  clear hi738_0 hl738_0
  replace p738 := eq_true p738
  replace q738 := eq_true q738
  have p739 : 0 ≤ (x5_1 : Int) := of_decide_eq_true tA
  have q739 : x5_1 < (l1.length : Int) := of_decide_eq_true tA
  obtain ⟨ad739, A739_0, c739_0, e739, hx739_0, hl739_0, hi739_0⟩ := at_L2 HR1.out x5_1 p739 q739
  cases e739
  have HR739_0 := Aq.mk hi739_0
  have HC739_0 := Aq.mk hl739_0
  clear hi739_0 hl739_0
  replace p739 := eq_true p739
  replace q739 := eq_true q739
  go_wp2_with (first | (go_at_call 79; (with_reducible refine (laws_eqInt64S.calls k1 _ _ (rd_L2 l0 x5_1) _ _ (rd_L2 l1 x5_1) false _ ?s1 ?s2 ?s3 ?s4 A7.out).mono ?_); (case s1 => exact tC HR738_0.out); (case s2 => exact HC738_0.out); (case s3 => exact tC HR739_0.out); (case s4 => exact HC739_0.out); rintro e w' ⟨rfl, ⟨nd, rfl⟩⟩; (try exact tW)))
  repeat (go_quiet (first | (go_at_call 79; (with_reducible refine (laws_eqInt64S.calls k1 _ _ (rd_L2 l0 x5_1) _ _ (rd_L2 l1 x5_1) false _ ?s1 ?s2 ?s3 ?s4 A7.out).mono ?_); (case s1 => exact tC HR738_0.out); (case s2 => exact HC738_0.out); (case s3 => exact tC HR739_0.out); (case s4 => exact HC739_0.out); rintro e w' ⟨rfl, ⟨nd, rfl⟩⟩; (try exact tW))); try go_wp2_with (first | (go_at_call 79; (with_reducible refine (laws_eqInt64S.calls k1 _ _ (rd_L2 l0 x5_1) _ _ (rd_L2 l1 x5_1) false _ ?s1 ?s2 ?s3 ?s4 A7.out).mono ?_); (case s1 => exact tC HR738_0.out); (case s2 => exact HC738_0.out); (case s3 => exact tC HR739_0.out); (case s4 => exact HC739_0.out); rintro e w' ⟨rfl, ⟨nd, rfl⟩⟩; (try exact tW))))
  go_ret
  exact ⟨tS, tD⟩
end Go.Proofs.Ythjfilmdobkmlaa.P
