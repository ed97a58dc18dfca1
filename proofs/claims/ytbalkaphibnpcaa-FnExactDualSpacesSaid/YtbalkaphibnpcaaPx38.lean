/- Functions of the program and what they tell, as the printing program wrote it. -/
import Derived.Test.YtbalkaphibnpcaaPx0
import Derived.Test.YtbalkaphibnpcaaPx19
import Derived.Test.YtbalkaphibnpcaaPx21
namespace Go.Proofs.Ytbalkaphibnpcaa.P
open Go.Shelf Go.RowKit Go.Proofs.YtbalkaphibnpcaaW.PrintWords Go.Proofs.YtbalkaphibnpcaaW.PrintLast Go.Proofs.YtbalkaphibnpcaaW.PrintMore
attribute [local go_sem] max2_int min2_int max_two min_two max_three min_three max_four min_four
set_option linter.unusedVariables false
set_option linter.unusedSimpArgs false
set_option maxHeartbeats 8000000
set_option maxRecDepth 100000
def spec_l02Product.l0 : Nat → Int → Int → Option (Int)
  | 0, _, _ => none
  | k + 1, x5, x6 => if x6 > 0 then (spec_l02Product.l0 k (Go.bits .xor .i64 x5 (Go.bits .and .i64 x6 1)) (wrap64 (Int.tdiv x6 2))) else (some x5)
def spec_l02Product.f (k : Nat) (a0 : Int) (a1 : Int) : Option (Int) := spec_l02Product.l0 k 0 (Go.bits .and .i64 a0 a1)
theorem spec_l02Product.mono_l : ∀ k, (∀ y0 y1, LeO (spec_l02Product.l0 k y0 y1) (spec_l02Product.l0 (k + 1) y0 y1))
 | 0 => fun _ _ r h => by simp [spec_l02Product.l0] at h
 | k + 1 => by
  have ih0 := spec_l02Product.mono_l k
  ·intro y0 y1
   unfold spec_l02Product.l0
   repeat' first
   | (with_reducible first | apply ih0 | exact LeO.refl _ | exact LeO.none _ | refine LeO.ite ?_ ?_ | refine LeO.bind ?_ (fun _ => ?_))
   | exact LeO.none _
   | refine LeO.ite ?_ ?_
   | refine LeO.bind ?_ (fun _ => ?_)
theorem spec_l02Product.mono : ∀ a0 a1 k, LeO (spec_l02Product.f k a0 a1) (spec_l02Product.f (k + 1) a0 a1) := by
 intro a0 a1 k
 have ih0 := spec_l02Product.mono_l k
 unfold spec_l02Product.f
 repeat' first
  | (with_reducible first | apply ih0 | exact LeO.refl _ | exact LeO.none _ | refine LeO.ite ?_ ?_ | refine LeO.bind ?_ (fun _ => ?_))
  | exact LeO.none _
  | refine LeO.ite ?_ ?_
  | refine LeO.bind ?_ (fun _ => ?_)
theorem spec_l02Product.calls (k : Nat) (a0 : Int) (a1 : Int) (r : Int) (w : World) (h : spec_l02Product.f k a0 a1 = some r) :
 Calls Try.prog 82 #[.int .i64 a0, .int .i64 a1] w fun e w' => e = .returned (.int .i64 r) ∧ Dq w w' := by
 have H : (spec_l02Product.l0 k 0 (Go.bits .and .i64 a0 a1)) = some r := h
 clear h
 replace H' := Aq.mk H
 clear H
 go_enter Try.func82, Try.ntmps82
 go_wp2
 go_loopg [5, 6] k (fun kq v5 v6 w' => ∃ (x5_1 : Int) (x6_1 : Int), v5 = .int .i64 x5_1 ∧ v6 = .int .i64 x6_1 ∧ Aq (spec_l02Product.l0 kq x5_1 x6_1 = some r) ∧ Aq (kq ≤ k) ∧ Dq w w')
 case atStart => exact ⟨(0), (Go.bits .and .i64 a0 a1), tS, tS, H', ⟨Nat.le_refl _⟩, tD⟩
 clear H'
 obtain ⟨x5_1, x6_1, rfl, rfl, HA, HK1, ⟨m1, rfl⟩⟩ := hrel
 cases gk with
 | zero => exact absurd HA.out (by simp [spec_l02Product.l0])
 | succ k1 =>
  have H := HA.out
  clear HA
  simp only [spec_l02Product.l0] at H
  by_cases c3 : x6_1 > 0
  rotate_left
  ·rw [if_neg c3] at H
   have c3b0 := decide_eq_false c3
   clear c3
   obtain rfl := Option.some.inj H
   go_wp2
   go_ret
   exact ⟨tS, tD⟩
  rw [if_pos c3] at H
  have c3b0 := decide_eq_true c3
  clear c3
  replace H' := Aq.mk H
  clear H
  go_wp2
  go_roundg k1
  case measure => have := HK1.out; omega
  case rel => exact ⟨(Go.bits .xor .i64 x5_1 (Go.bits .and .i64 x6_1 1)), (wrap64 (Int.tdiv x6_1 2)), tS, tS, H', ⟨by have := HK1.out; omega⟩, tD⟩
mutual
def spec_l02Kernel.l0 : Nat → Int → List Int → List Int → Int → Option (Int × List Int)
  | 0, _, _, _, _ => none
  | k + 1, x0, x1, x5, x6 => if 0 ≤ (IntKind.u64.wrap (x0)) then (if x6 < (shl .i64 1 (IntKind.u64.wrap (x0))) then (spec_l02Kernel.l1 k x0 x1 x5 x6 true 0) else ((spec_l02Echelon.f k x0 x5).bind fun t580 => (some (x0, t580)))) else (none)
def spec_l02Kernel.l1 : Nat → Int → List Int → List Int → Int → Bool → Int → Option (Int × List Int)
  | 0, _, _, _, _, _, _ => none
  | k + 1, x0, x1, x5, x6, x7, x8 => if x8 < (x1.length : Int) then (if x7 = true then (if 0 ≤ x8 then ((spec_l02Product.f k (rd x1 x8) x6).bind fun t584 => (spec_l02Kernel.l1 k x0 x1 x5 x6 (t584 == 0) (wrap64 (x8 + 1)))) else (none)) else (spec_l02Kernel.l0 k x0 x1 x5 (wrap64 (x6 + 1)))) else (if x7 = true then (if x5.length < 17592186044416 then (spec_l02Kernel.l0 k x0 x1 (x5 ++ [x6]) (wrap64 (x6 + 1))) else (none)) else (spec_l02Kernel.l0 k x0 x1 x5 (wrap64 (x6 + 1))))
end
def spec_l02Kernel.f (k : Nat) (a0 : Int) (l1 : List Int) : Option (Int × List Int) := spec_l02Kernel.l0 k a0 l1 (([] : List Int)) 0
theorem spec_l02Kernel.mono_l : ∀ k, (∀ y0 y1 y2 y3, LeO (spec_l02Kernel.l0 k y0 y1 y2 y3) (spec_l02Kernel.l0 (k + 1) y0 y1 y2 y3)) ∧ (∀ y0 y1 y2 y3 y4 y5, LeO (spec_l02Kernel.l1 k y0 y1 y2 y3 y4 y5) (spec_l02Kernel.l1 (k + 1) y0 y1 y2 y3 y4 y5))
 | 0 => ⟨fun _ _ _ _ r h => by simp [spec_l02Kernel.l0] at h, fun _ _ _ _ _ _ r h => by simp [spec_l02Kernel.l1] at h⟩
 | k + 1 => by
  obtain ⟨ih0, ih1⟩ := spec_l02Kernel.mono_l k
  refine ⟨?_, ?_⟩ <;> intros <;> first | unfold spec_l02Kernel.l0 | unfold spec_l02Kernel.l1
  all_goals repeat' first
   | (with_reducible first | apply ih0 | apply ih1 | apply spec_l02Echelon.mono | apply spec_l02Product.mono | exact LeO.refl _ | exact LeO.none _ | refine LeO.ite ?_ ?_ | refine LeO.bind ?_ (fun _ => ?_))
   | exact LeO.none _
   | refine LeO.ite ?_ ?_
   | refine LeO.bind ?_ (fun _ => ?_)
theorem spec_l02Kernel.mono : ∀ a0 a1 k, LeO (spec_l02Kernel.f k a0 a1) (spec_l02Kernel.f (k + 1) a0 a1) := by
 intro a0 a1 k
 obtain ⟨ih0, ih1⟩ := spec_l02Kernel.mono_l k
 unfold spec_l02Kernel.f
 repeat' first
  | (with_reducible first | apply ih0 | apply ih1 | apply spec_l02Echelon.mono | apply spec_l02Product.mono | exact LeO.refl _ | exact LeO.none _ | refine LeO.ite ?_ ?_ | refine LeO.bind ?_ (fun _ => ?_))
  | exact LeO.none _
  | refine LeO.ite ?_ ?_
  | refine LeO.bind ?_ (fun _ => ?_)
theorem spec_l02Kernel.calls (k : Nat) (a0 : Int) (A1 : Option Addr) (c1 : Nat) (l1 : List Int) (r1 : Int) (r2 : List Int) (w : World) (hr1 : Kd.C (Kd.int .i64) w A1 l1.length l1) (hc1 : l1.length ≤ c1) (h : spec_l02Kernel.f k a0 l1 = some (r1, r2)) :
 Calls Try.prog 54 #[.int .i64 a0, .slice A1 l1.length c1] w fun e w' => ∃ v1_ : Value, e = .returned (.agg #[.int .i64 r1, v1_]) ∧ Kd.R (Kd.int .i64) 2 w' w.heap.size (fun _ => True) v1_ r2 ∧ Below w.heap.size w w' := by
 have hu63 := Try.underlying63
 have HR1 := Aq.mk hr1
 have HC1 := Aq.mk hc1
 clear hr1 hc1
 have HB := Aq.mk (Below.refl w.heap.size w)
 have H : (spec_l02Kernel.l0 k a0 l1 (([] : List Int)) 0) = some (r1, r2) := h
 clear h
 obtain ⟨y577, hy577⟩ : ∃ y_ : List Int, y_ = (([] : List Int)) := ⟨_, rfl⟩
 replace H : (spec_l02Kernel.l0 k a0 l1 y577 0) = some (r1, r2) := by first | (rw [hy577]; with_reducible exact H) | (have H2_ := (Option.bind_some _ _).symm.trans H; rw [hy577]; with_reducible exact H2_) | (have H2_ := (Option.bind_some _ _).symm.trans H; with_reducible exact H2_) | with_reducible exact H | (rw [hy577]; exact H) | exact H
 have Ny577 := Aq.mk hy577
 clear hy577
 replace H' := Aq.mk H
 clear H
 go_enter Try.func54, Try.ntmps54
 go_wp2_with (first | ((with_reducible refine gQd (N := 4) rfl ?_); refine xQe ?hg (N := 4) ?hd (cs := #[.int .i64 0, .slice none 0 0]) (t := 63) ?hr ?_; (case hd => rfl); (case hg => rfl); (case hr => exact tH); intro gb576 hg w3 hbox hb; refine qM4 (bQT tB hb) hbox (tZ w hg) (tZ w hg) ?_; clear HB; intro HB BK576 GW576 GE576; clear hb hbox hg) | ((with_reducible refine gQd (N := 9) rfl ?_); refine Kd.R_lit (Kd.int .i64) _ 2 ?hg (N := 9) ?hd (xs := ([] : List Int)) (inner := []) (ok := fun _ => True) (okp := fun _ => True) ?hr ?hp (fun _ hk => hk) trivial (Below.refl _ _) (Nat.le_refl _) (by simp) ?_; (case hd => rfl); (case hg => rfl); (case hr => exact tH); (case hp => exact (Reps.none _ _)); intro v578 w4 ho5 hb hg_ hnew_; clear hg_ hnew_; (first | rw [← Ny577.out] at ho5 | (simp only [Int.reduceToNat] at ho5; rw [← Ny577.out] at ho5)); refine qM3 (Kd.R_lower ho5 (bQZ tB)) (tQ BK576.out hb) (bQT tB hb) ?_; clear BK576 HB; intro HO579 BK576 HB; clear hb ho5))
 go_loopg [5, 6] k (fun kq v5 v6 w' => ∃ (x5_1 : List Int) (x6_1 : Int), v6 = .int .i64 x6_1 ∧ Aq (spec_l02Kernel.l0 kq a0 l1 x5_1 x6_1 = some (r1, r2)) ∧ Aq (kq ≤ k) ∧ Aq (Kd.R (Kd.int .i64) 2 w' w.heap.size (fun _ => True) v5 x5_1) ∧ Aq (w'.heap[gb576]? = some (.cells #[.int .i64 0, (.slice none 0 0)] 63 (0, 0))) ∧ Aq (Below w.heap.size w w'))
 case atStart => exact ⟨(y577), (0), tS, H', ⟨Nat.le_refl _⟩, ⟨tR HO579.out⟩, ⟨tG BK576.out⟩, ⟨tB⟩⟩
 clear H'
 try clear c1
 obtain ⟨x5_1, x6_1, rfl, HA, HK1, HO_5, BK576, HB⟩ := hrel
 cases gk with
 | zero => exact absurd HA.out (by simp [spec_l02Kernel.l0])
 | succ k1 =>
  have H := HA.out
  clear HA
  simp only [spec_l02Kernel.l0] at H
  obtain ⟨ji6, hji6⟩ : ∃ j_ : Int, (IntKind.u64.wrap (a0)) = j_ := ⟨_, rfl⟩
  first | rw [hji6] at H | simp only [hji6] at H | skip
  by_cases c7 : 0 ≤ (ji6)
  rotate_left
  ·rw [if_neg c7] at H
   exact absurd H (by simp)
  rw [if_pos c7] at H
  have c7b0 := eq_true c7
  have c7b1 := decide_eq_true c7
  clear c7
  obtain ⟨ji8, hji8⟩ : ∃ j_ : Int, (shl .i64 1 (ji6)) = j_ := ⟨_, rfl⟩
  first | rw [hji8] at H | simp only [hji8] at H | skip
  have hji8_ : (IntKind.i64.wrap (1 * 2 ^ min (ji6).toNat 64)) = ji8 := hji8
  have hji8z : (ji6) ≤ 64 → (IntKind.i64.wrap (1 * 2 ^ (ji6).toNat)) = ji8 := shl_small hji8
  have hji8u : (IntKind.i64.wrap (2 ^ min (ji6).toNat 64)) = ji8 := by have h_ := hji8_; rw [Int.one_mul] at h_; exact h_
  have hji8v : (ji6) ≤ 64 → (IntKind.i64.wrap (2 ^ (ji6).toNat)) = ji8 := fun hle_ => by have h_ := hji8z hle_; rw [Int.one_mul] at h_; exact h_
  have hji8y : (wrap64 (1 * 2 ^ min (ji6).toNat 64)) = ji8 := (i64_w _).symm.trans hji8_
  have hji8x : (ji6) ≤ 64 → (wrap64 (1 * 2 ^ (ji6).toNat)) = ji8 := fun h_ => (i64_w _).symm.trans (hji8z h_)
  by_cases c9 : x6_1 < (ji8)
  rotate_left
  ·rw [if_neg c9] at H
   have c9b0 := decide_eq_false c9
   clear c9
   obtain ⟨t580, A17, H⟩ := qBd H
   simp only [Option.some.injEq, Prod.mk.injEq] at H
   obtain ⟨rfl, rfl⟩ := H
   obtain ⟨Ao18, co18, eo18⟩ := Kd.R_slice HO_5.out
   subst eo18
   go_wp2_with (first | ((with_reducible refine gQc (f := 83) rfl ?_); refine goesL_ (some 41) rfl rfl Try.func83 (by kernel_rfl) rfl #[.int .i64 a0, .slice Ao18 x5_1.length co18] rfl tL ?_; (with_reducible refine (spec_l02Echelon.calls k1 a0 _ _ x5_1 t580 _ ?s1 ?s2 A17.out).mono ?_); (case s1 => exact tC ((Kd.R_reads' HO_5.out).2.2)); (case s2 => exact (Kd.R_reads' HO_5.out).2.1); rintro e w19 ⟨v581, rfl, ho0, hb⟩; refine ⟨_, rfl, ?_⟩; refine qM4 (Kd.R_elder' (tR HO_5.out) (Kd.R_base ho0) hb) (Kd.R_lower (Kd.R_new' ho0 (Kd.R_lt (tR HO_5.out))) (bQZ tB)) (tQ BK576.out hb) (bQT tB hb) ?_; clear HO_5 BK576 HB; intro HO_5 HO582 BK576 HB; (try clear hb); (try clear hb2); (try clear hk); (try clear hi); (try clear ho0); obtain ⟨Ao20, co20, eo20⟩ := Kd.R_slice HO582.out; subst eo20; have hcz21_0 : w19.cell? ⟨gb576, 0, none⟩ = some (.int .i64 0) := (kQC BK576.out 0).trans rfl; have hcz21_1 : w19.cell? ⟨gb576, 1, none⟩ = some (.slice none 0 0) := (kQC BK576.out 1).trans rfl; have hfz21_0 := kQF BK576.out 0; have hfz21_1 := kQF BK576.out 1))
   refine bodyPost_ret (results_cell_row rfl _ _ gb576 63 #[.int .i64 a0, .slice Ao20 t580.length co20] (0, 0) _ rfl (by (with_reducible repeat (first | refine kQN ?_ _ | refine kQD ?_ | refine kQA ?_ _)); refine kQP (cs := #[.int .i64 a0, .slice none 0 0]) ?_ 1 _ rfl; (with_reducible repeat (first | refine kQN ?_ _ | refine kQD ?_ | refine kQA ?_ _)); refine kQP (cs := #[.int .i64 0, .slice none 0 0]) ?_ 0 _ rfl; (with_reducible repeat (first | refine kQN ?_ _ | refine kQD ?_ | refine kQA ?_ _)); exact BK576.out) Try.underlying63 rfl (by kernel_rfl)) rfl ?_
   exact ⟨_, by first | rfl | (simp [errW_none, errW_some] <;> rfl) | (simp only [← hji6, ← hji8]; first | rfl | (simp [errW_none, errW_some] <;> rfl)) | (simp [*, errW_none, errW_some] <;> rfl), by (with_reducible repeat (first | apply Kd.RqA | apply Kd.RqN | apply Kd.RqD)); exact Kd.R_mono (Kd.R_far (p := ⟨gb576, 1, none⟩) (Kd.R_far (p := ⟨gb576, 0, none⟩) (Kd.R_types HO582.out BK576.out (by decide)) (fun _ hk => hk.2) (.int .i64 a0)) (fun _ hk => hk.2) (.slice Ao20 t580.length co20)) (fun _ hk => trivial), tB⟩
  rw [if_pos c9] at H
  have c9b0 := decide_eq_true c9
  clear c9
  replace H' := Aq.mk H
  clear H
  go_wp2
  go_loopg [7, 8] k1 (fun kq v7 v8 w' => ∃ (x7_2 : Bool) (x8_2 : Int), v7 = .bool x7_2 ∧ v8 = .int .i64 x8_2 ∧ Aq (spec_l02Kernel.l1 kq a0 l1 x5_1 x6_1 x7_2 x8_2 = some (r1, r2)) ∧ Aq (kq ≤ k1) ∧ Aq (Kd.R (Kd.int .i64) 2 w' w.heap.size (fun _ => True) u5 x5_1) ∧ Aq (w'.heap[gb576]? = some (.cells #[.int .i64 0, (.slice none 0 0)] 63 (0, 0))) ∧ Aq (Below w.heap.size w w'))
  case atStart => exact ⟨(true), (0), tS, tS, H', ⟨Nat.le_refl _⟩, ⟨tR HO_5.out⟩, ⟨tG BK576.out⟩, ⟨tB⟩⟩
  clear H'
  try clear c1
  try clear c7
  try clear c7b0
  try clear c7b1
  try clear c9
  try clear c9b0
  obtain ⟨x7_2, x8_2, rfl, rfl, HA, HK2, HO_5, BK576, HB⟩ := hrel
  cases gk with
  | zero => exact absurd HA.out (by simp [spec_l02Kernel.l1])
  | succ k2 =>
   have H := HA.out
   clear HA
   simp only [spec_l02Kernel.l1] at H
   by_cases c10 : x8_2 < (l1.length : Int)
   rotate_left
   ·rw [if_neg c10] at H
    have c10b0 := decide_eq_false c10
    clear c10
    by_cases c14 : x7_2 = true
    rotate_left
    ·replace c14 := Bool.eq_false_iff.mpr c14
     subst c14
     rw [if_neg (show ¬ (false = true) by decide)] at H
     replace H' := Aq.mk H
     clear H
     go_wp2
     go_roundg k2
     case measure => have := HK1.out; have := HK2.out; omega
     case rel => exact ⟨(x5_1), (wrap64 (x6_1 + 1)), tS, H', ⟨by have := HK1.out; have := HK2.out; omega⟩, ⟨tR HO_5.out⟩, ⟨tG BK576.out⟩, ⟨tB⟩⟩
    subst c14
    rw [if_pos rfl] at H
    by_cases c15 : x5_1.length < 17592186044416
    rotate_left
    ·rw [if_neg c15] at H
     exact absurd H (by simp)
    rw [if_pos c15] at H
    have LMc15 := Aq.mk c15
    clear c15
    obtain ⟨y585, hy585⟩ : ∃ y_ : List Int, y_ = (x5_1 ++ [x6_1]) := ⟨_, rfl⟩
    replace H : (spec_l02Kernel.l0 k2 a0 l1 y585 (wrap64 (x6_1 + 1))) = some (r1, r2) := by first | (rw [hy585]; with_reducible exact H) | (have H2_ := (Option.bind_some _ _).symm.trans H; rw [hy585]; with_reducible exact H2_) | (have H2_ := (Option.bind_some _ _).symm.trans H; with_reducible exact H2_) | with_reducible exact H | (rw [hy585]; exact H) | exact H
    have Ny585 := Aq.mk hy585
    clear hy585
    replace H' := Aq.mk H
    clear H
    go_wp2_with (first | ((with_reducible refine gate_builtin (b := .append) (xs := #[.tmp 34, .tmp 36]) rfl ?_); at_builtin; refine Kd.R_append (Kd.int .i64) (w0 := w) w.heap.size rfl (.tmp 34) (.tmp 36) 38 2 (.int .i64 0) 8 rfl Try.underlying38 info2 rfl (by decide) (by omega) u5 x5_1 x6_1 [.int .i64 x6_1] (fun _ => True) (fun _ => False) rfl rfl ?aP (fun _ hk => hk.elim) ?aF ?aO ?aB ?aS ?aL ?_; (case aP => exact rfl); (case aB => exact tB); (case aF => exact (fun _ _ => trivial)); (case aO => exact (tR HO_5.out)); (case aS => exact (bQZ tB)); (case aL => have := LMc15.out; omega); intro v586 w16 ho hb hg hat; rw [← Ny585.out] at ho; refine qM3 (blk_grown (g := gb576) (o := .cells #[.int .i64 0, .slice none 0 0] 63 (0, 0)) (tG BK576.out) hg (Kd.R_ne HO_5.out BK576.out (by decide))) hb ho ?_; clear BK576 HB HO_5; intro BK576 HB HO587; clear ho hb hg hat))
    go_roundg k2
    case measure => have := HK1.out; have := HK2.out; omega
    case rel => exact ⟨(y585), (wrap64 (x6_1 + 1)), tS, H', ⟨by have := HK1.out; have := HK2.out; omega⟩, ⟨tR HO587.out⟩, ⟨tG BK576.out⟩, ⟨tB⟩⟩
   rw [if_pos c10] at H
   have c10b0 := decide_eq_true c10
   clear c10
   by_cases c11 : x7_2 = true
   rotate_left
   ·replace c11 := Bool.eq_false_iff.mpr c11
    subst c11
    rw [if_neg (show ¬ (false = true) by decide)] at H
    replace H' := Aq.mk H
    clear H
    go_wp2
    go_roundg k2
    case measure => have := HK1.out; have := HK2.out; omega
    case rel => exact ⟨(x5_1), (wrap64 (x6_1 + 1)), tS, H', ⟨by have := HK1.out; have := HK2.out; omega⟩, ⟨tR HO_5.out⟩, ⟨tG BK576.out⟩, ⟨tB⟩⟩
   subst c11
   rw [if_pos rfl] at H
   by_cases c12 : 0 ≤ x8_2
   rotate_left
   ·rw [if_neg c12] at H
    exact absurd H (by simp)
   rw [if_pos c12] at H
   have c12b0 := decide_eq_true c12
   clear c12
   obtain ⟨t584, A13, H⟩ := qBd H
   replace H' := Aq.mk H
   clear H
   have p583 : 0 ≤ (x8_2 : Int) := of_decide_eq_true tA
   have q583 : x8_2 < (l1.length : Int) := of_decide_eq_true tA
   obtain ⟨ad583, e583, hx583_0⟩ := Kd.at_int HR1.out x8_2 p583 q583
   cases e583
   replace hx583_0 := (HB.out.cell (World.block_lt_of_cell? w _ hx583_0)).trans hx583_0
   replace p583 := eq_true p583
   replace q583 := eq_true q583
   go_wp2_with (first | ((with_reducible refine gQc (f := 82) rfl ?_); refine goesL_ (some 31) rfl rfl Try.func82 (by kernel_rfl) rfl #[.int .i64 (rd l1 x8_2), .int .i64 x6_1] rfl tL ?_; (with_reducible refine (spec_l02Product.calls k2 (rd l1 x8_2) x6_1 t584 _ A13.out).mono ?_); rintro e w' ⟨rfl, ⟨nd, rfl⟩⟩; refine ⟨_, rfl, ?_⟩))
   go_roundg k2
   case measure => have := HK1.out; have := HK2.out; omega
   case rel => exact ⟨((t584 == 0)), (wrap64 (x8_2 + 1)), tS, tS, H', ⟨by have := HK1.out; have := HK2.out; omega⟩, ⟨tR HO_5.out⟩, ⟨tG BK576.out⟩, ⟨tB⟩⟩
def spec_DualSpaces.l0 : Nat → List (S63) → List (S63) → Int → Option ((List (S63)) × Int)
  | 0, _, _, _ => none
  | k + 1, x0, x4, x5 => if x5 < (x0.length : Int) then (if 0 ≤ x5 then ((spec_l02Kernel.f k ((rd_T63 x0 x5).f0) ((rd_T63 x0 x5).f1)).bind fun bt597 => (if x4.length < 4398046511104 then (spec_DualSpaces.l0 k x0 (x4 ++ [(⟨bt597.1, bt597.2⟩ : S63)]) (wrap64 (x5 + 1))) else (none))) else (none)) else (some (x4, 0))
def spec_DualSpaces.f (k : Nat) (l0 : List (S63)) : Option ((List (S63)) × Int) := (spec_l06Ok.f k l0).bind fun t588 => (if t588 = true then (spec_DualSpaces.l0 k l0 (([] : List (S63))) 0) else (some ((([] : List (S63))), 1)))
theorem spec_DualSpaces.mono_l : ∀ k, (∀ y0 y1 y2, LeO (spec_DualSpaces.l0 k y0 y1 y2) (spec_DualSpaces.l0 (k + 1) y0 y1 y2))
 | 0 => fun _ _ _ r h => by simp [spec_DualSpaces.l0] at h
 | k + 1 => by
  have ih0 := spec_DualSpaces.mono_l k
  ·intro y0 y1 y2
   unfold spec_DualSpaces.l0
   repeat' first
   | (with_reducible first | apply ih0 | apply spec_l02Kernel.mono | apply spec_l06Ok.mono | exact LeO.refl _ | exact LeO.none _ | refine LeO.ite ?_ ?_ | refine LeO.bind ?_ (fun _ => ?_))
   | exact LeO.none _
   | refine LeO.ite ?_ ?_
   | refine LeO.bind ?_ (fun _ => ?_)
theorem spec_DualSpaces.mono : ∀ a0 k, LeO (spec_DualSpaces.f k a0) (spec_DualSpaces.f (k + 1) a0) := by
 intro a0 k
 have ih0 := spec_DualSpaces.mono_l k
 unfold spec_DualSpaces.f
 repeat' first
  | (with_reducible first | apply ih0 | apply spec_l02Kernel.mono | apply spec_l06Ok.mono | exact LeO.refl _ | exact LeO.none _ | refine LeO.ite ?_ ?_ | refine LeO.bind ?_ (fun _ => ?_))
  | exact LeO.none _
  | refine LeO.ite ?_ ?_
  | refine LeO.bind ?_ (fun _ => ?_)
def spec_DualSpaces.T7 : Bool × List (List Nat × List Nat) := (true, [([], []), ([], []), ([], []), ([1, 2], [1, 2]), ([3], [3]), ([4], [4]), ([], []), ([], []), ([6, 7], [6, 7]), ([8], [8]), ([9], [9]), ([5, 10], [5, 10]), ([11], [11]), ([0, 12, 11], [0, 12]), ([13, 13, 0, 1, 2, 3, 4, 5, 6, 7, 8, 9, 10, 11, 12, 13], [0, 13])])
def spec_DualSpaces.B7 : List Nat := [0, 0, 0, 6, 14, 30, 0, 0, 192, 448, 960, 2046, 4094, 8191, 16383]
theorem spec_DualSpaces.tab7 : rtab .any (opsOf Try.f28 7) = spec_DualSpaces.T7 := by kernel_rfl
theorem spec_DualSpaces.bits7 : waitsOk spec_DualSpaces.T7.2 spec_DualSpaces.B7 = true := by kernel_rfl
theorem spec_DualSpaces.calls (k : Nat) (A0 : Option Addr) (c0 : Nat) (l0 : List (S63)) (r1 : List (S63)) (r2 : Int) (w : World) (hr0 : Kd.C k63 w A0 l0.length l0) (hc0 : l0.length ≤ c0) (h : spec_DualSpaces.f k l0 = some (r1, r2)) :
 Calls Try.prog 28 #[.slice A0 l0.length c0] w fun e w' => ∃ v0_ : Value, e = .returned (.tuple #[v0_, .int .i64 r2]) ∧ Kd.S k63 63 w' w.heap.size (fun _ => True) v0_ r1 ∧ Below w.heap.size w w' := by
 have HR0 := Aq.mk hr0
 have HC0 := Aq.mk hc0
 clear hr0 hc0
 have HB := Aq.mk (Below.refl w.heap.size w)
 have H : ((spec_l06Ok.f k l0).bind fun t588 => (if t588 = true then (spec_DualSpaces.l0 k l0 (([] : List (S63))) 0) else (some ((([] : List (S63))), 1)))) = some (r1, r2) := h
 clear h
 obtain ⟨t588, A2, H⟩ := qBd H
 by_cases c3 : t588 = true
 rotate_left
 ·replace c3 := Bool.eq_false_iff.mpr c3
  subst c3
  rw [if_neg (show ¬ (false = true) by decide)] at H
  obtain ⟨y589, hy589⟩ : ∃ y_ : List (S63), y_ = (([] : List (S63))) := ⟨_, rfl⟩
  replace H : (some (y589, 1)) = some (r1, r2) := by first | (rw [hy589]; with_reducible exact H) | (have H2_ := (Option.bind_some _ _).symm.trans H; rw [hy589]; with_reducible exact H2_) | (have H2_ := (Option.bind_some _ _).symm.trans H; with_reducible exact H2_) | with_reducible exact H | (rw [hy589]; exact H) | exact H
  have Ny589 := Aq.mk hy589
  clear hy589
  simp only [Option.some.injEq, Prod.mk.injEq] at H
  obtain ⟨rfl, rfl⟩ := H
  go_enter Try.func28, Try.ntmps28
  go_wp2_with (first | ((with_reducible refine gQc (f := 53) rfl ?_); refine goesL_ (some 7) rfl rfl Try.func53 (by kernel_rfl) rfl #[.slice A0 l0.length c0] rfl tL ?_; (with_reducible refine (spec_l06Ok.calls k _ _ l0 false _ ?s1 ?s2 A2.out).mono ?_); (case s1 => exact tC HR0.out); (case s2 => exact HC0.out); rintro e w15 ⟨rfl, hb⟩; refine ⟨_, rfl, ?_⟩; refine qM1 (bQT tB hb) ?_; clear HB; intro HB; (try clear hb); (try clear hb2); (try clear hk); (try clear hi)) | ((with_reducible refine gQd (N := 9) rfl ?_); refine Kd.S_lit k63 _ 63 ?hg (N := 9) ?hd (xs := ([] : List (S63))) (inner := []) (ok := fun _ => True) (okp := fun _ => True) ?hr ?hp (fun _ hk => hk) trivial (Below.refl _ _) (Nat.le_refl _) (by simp) ?_; (case hd => rfl); (case hg => rfl); (case hr => exact tH); (case hp => exact (Reps.none _ _)); intro v590 w16 ho17 hb hg_ hnew_; clear hg_ hnew_; (first | rw [← Ny589.out] at ho17 | (simp only [Int.reduceToNat] at ho17; rw [← Ny589.out] at ho17)); refine qM2 (Kd.S_lower ho17 (bQZ tB)) (bQT tB hb) ?_; clear HB; intro HO591 HB; clear hb ho17))
  go_ret2
  exact ⟨_, tE, by (with_reducible repeat (first | apply Kd.S_alloc | apply Kd.S_drewN | apply Kd.S_drew)); exact HO591.out, tB⟩
 subst c3
 rw [if_pos rfl] at H
 obtain ⟨y592, hy592⟩ : ∃ y_ : List (S63), y_ = (([] : List (S63))) := ⟨_, rfl⟩
 replace H : (spec_DualSpaces.l0 k l0 y592 0) = some (r1, r2) := by first | (rw [hy592]; with_reducible exact H) | (have H2_ := (Option.bind_some _ _).symm.trans H; rw [hy592]; with_reducible exact H2_) | (have H2_ := (Option.bind_some _ _).symm.trans H; with_reducible exact H2_) | with_reducible exact H | (rw [hy592]; exact H) | exact H
 have Ny592 := Aq.mk hy592
 clear hy592
 replace H' := Aq.mk H
 clear H
 go_enter Try.func28, Try.ntmps28
 go_wp2_with (first | ((with_reducible refine gQc (f := 53) rfl ?_); refine goesL_ (some 7) rfl rfl Try.func53 (by kernel_rfl) rfl #[.slice A0 l0.length c0] rfl tL ?_; (with_reducible refine (spec_l06Ok.calls k _ _ l0 true _ ?s1 ?s2 A2.out).mono ?_); (case s1 => exact tC HR0.out); (case s2 => exact HC0.out); rintro e w4 ⟨rfl, hb⟩; refine ⟨_, rfl, ?_⟩; refine qM1 (bQT tB hb) ?_; clear HB; intro HB; (try clear hb); (try clear hb2); (try clear hk); (try clear hi)) | ((with_reducible refine gQd (N := 10) rfl ?_); refine Kd.S_lit k63 _ 63 ?hg (N := 10) ?hd (xs := ([] : List (S63))) (inner := []) (ok := fun _ => True) (okp := fun _ => True) ?hr ?hp (fun _ hk => hk) trivial (Below.refl _ _) (Nat.le_refl _) (by simp) ?_; (case hd => rfl); (case hg => rfl); (case hr => exact tH); (case hp => exact (Reps.none _ _)); intro v593 w5 ho6 hb hg_ hnew_; clear hg_ hnew_; (first | rw [← Ny592.out] at ho6 | (simp only [Int.reduceToNat] at ho6; rw [← Ny592.out] at ho6)); refine qM2 (Kd.S_lower ho6 (bQZ tB)) (bQT tB hb) ?_; clear HB; intro HO594 HB; clear hb ho6))
 go_loopg [4, 5] k (fun kq v4 v5 w' => ∃ (x4_1 : List (S63)) (x5_1 : Int), v5 = .int .i64 x5_1 ∧ Aq (spec_DualSpaces.l0 kq l0 x4_1 x5_1 = some (r1, r2)) ∧ Aq (kq ≤ k) ∧ Aq (Kd.S k63 63 w' w.heap.size (fun _ => True) v4 x4_1) ∧ Aq (Below w.heap.size w w'))
 case atStart => exact ⟨(y592), (0), tS, H', ⟨Nat.le_refl _⟩, ⟨by (with_reducible repeat (first | apply Kd.S_alloc | apply Kd.S_drewN | apply Kd.S_drew)); exact HO594.out⟩, ⟨tB⟩⟩
 clear H'
 try clear c3
 obtain ⟨x4_1, x5_1, rfl, HA, HK1, HO_4, HB⟩ := hrel
 cases gk with
 | zero => exact absurd HA.out (by simp [spec_DualSpaces.l0])
 | succ k1 =>
  have H := HA.out
  clear HA
  simp only [spec_DualSpaces.l0] at H
  by_cases c7 : x5_1 < (l0.length : Int)
  rotate_left
  ·rw [if_neg c7] at H
   have c7b0 := decide_eq_false c7
   clear c7
   simp only [Option.some.injEq, Prod.mk.injEq] at H
   obtain ⟨rfl, rfl⟩ := H
   go_wp2
   go_ret2
   exact ⟨_, tE, by (with_reducible repeat (first | apply Kd.S_alloc | apply Kd.S_drewN | apply Kd.S_drew)); exact HO_4.out, tB⟩
  rw [if_pos c7] at H
  have c7b0 := decide_eq_true c7
  clear c7
  by_cases c8 : 0 ≤ x5_1
  rotate_left
  ·rw [if_neg c8] at H
   exact absurd H (by simp)
  rw [if_pos c8] at H
  have c8b0 := decide_eq_true c8
  clear c8
  obtain ⟨⟨t597, t598⟩, A9, H⟩ := qBd H
  (try dsimp only at H)
  by_cases c10 : x4_1.length < 4398046511104
  rotate_left
  ·rw [if_neg c10] at H
   exact absurd H (by simp)
  rw [if_pos c10] at H
  have LMc10 := Aq.mk c10
  clear c10
  obtain ⟨y601, hy601⟩ : ∃ y_ : List (S63), y_ = (x4_1 ++ [(⟨t597, t598⟩ : S63)]) := ⟨_, rfl⟩
  replace H : (spec_DualSpaces.l0 k1 l0 y601 (wrap64 (x5_1 + 1))) = some (r1, r2) := by first | (rw [hy601]; with_reducible exact H) | (have H2_ := (Option.bind_some _ _).symm.trans H; rw [hy601]; with_reducible exact H2_) | (have H2_ := (Option.bind_some _ _).symm.trans H; with_reducible exact H2_) | with_reducible exact H | (rw [hy601]; exact H) | exact H
  have Ny601 := Aq.mk hy601
  clear hy601
  replace H' := Aq.mk H
  clear H
  try go_wp2
  have n0_ := Aq.mk (Kd.S_drew HO_4.out)
  have n1_ := Aq.mk (bQ1 HB.out)
  clear HO_4
  clear HB
  have HO_4 := n0_
  have HB := n1_
  clear n0_ n1_
  have p595 : 0 ≤ (x5_1 : Int) := of_decide_eq_true tA
  have q595 : x5_1 < (l0.length : Int) := of_decide_eq_true tA
  obtain ⟨ad595, A595_1, c595_1, e595, hx595_0, hx595_1, hl595_1, hi595_1⟩ := at_T63 HR0.out x5_1 p595 q595
  have hw595_1 := hx595_1
  have hw595_0 := hx595_0
  cases e595
  replace hx595_0 := (HB.out.cell (World.block_lt_of_cell? w _ hx595_0)).trans hx595_0
  replace hx595_1 := (HB.out.cell (World.block_lt_of_cell? w _ hx595_1)).trans hx595_1
  have HR595_1 := Aq.mk hi595_1
  have HC595_1 := Aq.mk hl595_1
  clear hi595_1 hl595_1
  replace p595 := eq_true p595
  replace q595 := eq_true q595
  have p596 : 0 ≤ (x5_1 : Int) := of_decide_eq_true tA
  have q596 : x5_1 < (l0.length : Int) := of_decide_eq_true tA
  obtain ⟨ad596, A596_1, c596_1, e596, hx596_0, hx596_1, hl596_1, hi596_1⟩ := at_T63 HR0.out x5_1 p596 q596
  have hw596_1 := hx596_1
  have hw596_0 := hx596_0
  obtain rfl : ad595 = ad596 := (by injection e596)
  replace hx596_0 := (HB.out.cell (World.block_lt_of_cell? w _ hx596_0)).trans hx596_0
  replace hx596_1 := (HB.out.cell (World.block_lt_of_cell? w _ hx596_1)).trans hx596_1
  have HR596_1 := Aq.mk hi596_1
  have HC596_1 := Aq.mk hl596_1
  clear hi596_1 hl596_1
  replace p596 := eq_true p596
  replace q596 := eq_true q596
  have ea_ := Option.some.inj (hx595_1.symm.trans hx596_1)
  injection ea_ with ea_ en_ ec_
  subst ea_
  subst ec_
  clear en_
  refine start_ (n := 15) (S := fun w' => w'.cell? (ad595.add ((x5_1).toNat * 2)) = some (.int .i64 ((rd_T63 l0 x5_1).f0)) ∧ w'.cell? ⟨(ad595.add ((x5_1).toNat * 2)).block, (ad595.add ((x5_1).toNat * 2)).off + 1, none⟩ = some (.slice A595_1 ((rd_T63 l0 x5_1).f1).length c595_1) ∧ w'.cell? (ad595.add ((x5_1).toNat * 2)) = some (.int .i64 ((rd_T63 l0 x5_1).f0)) ∧ w'.cell? ⟨(ad595.add ((x5_1).toNat * 2)).block, (ad595.add ((x5_1).toNat * 2)).off + 1, none⟩ = some (.slice A595_1 ((rd_T63 l0 x5_1).f1).length c595_1)) (ds := []) #[false, false, false, false, false, false, false, false, false, false, false, false, false, false, false] (by kernel_rfl) rfl rfl ⟨(tcw tB hw595_0), (tcw tB hw595_1), (tcw tB hw596_0), (tcw tB hw596_1)⟩ (fun hHeld => ?_); refine with_tabW spec_DualSpaces.tab7 spec_DualSpaces.bits7 (fun HT_ HW_ => ?_)
  generalize wr.drew = w11 at HO_4 HB HR595_1 HR596_1 hx595_0 hx595_1 hx596_0 hx596_1 hHeld ⊢
  refine tP0 0 17 (bm 15 1) ?_
  refine tP0 1 18 (bm 15 3) ?_
  refine tP0 2 19 (bm 15 7) ?_
  refine tP0 3 20 (bm 15 15) ?_
  refine tP0 4 21 (bm 15 31) ?_
  refine tP0 6 23 (bm 15 95) ?_
  refine tP0 7 24 (bm 15 223) ?_
  refine tP0 8 25 (bm 15 479) ?_
  refine tP0 9 26 (bm 15 991) ?_
  refine tT4 5 22 (bm 15 1023) ?_
  refine tT4 10 27 (bm 15 2047) ?_
  refine one_ (i := 11) (N := some 28) (bm 15 4095) rfl rfl (one_of HT_.out (by kernel_rfl)) (by decide) (fun K hK => ?_)
  refine goes_ Try.func54 (by kernel_rfl) rfl #[.int .i64 ((rd_T63 l0 x5_1).f0), .slice A595_1 ((rd_T63 l0 x5_1).f1).length c595_1] (by rfl) rfl rfl tL ?_
  with_reducible refine (spec_l02Kernel.calls k1 ((rd_T63 l0 x5_1).f0) _ _ ((rd_T63 l0 x5_1).f1) t597 t598 _ ?s1 ?s2 A9.out).mono ?_
  (case s1 => exact tC ((Kd.C_below HR596_1.out HB.out)))
  (case s2 => exact HC596_1.out)
  rintro e w12 ⟨v599, rfl, ho0, hb⟩
  refine ⟨_, rfl, ?_⟩
  have n0_ := Aq.mk (Kd.S_elder' (by (with_reducible repeat (first | apply Kd.S_alloc | apply Kd.S_drewN | apply Kd.S_drew)); exact HO_4.out) (Kd.R_base ho0) hb)
  have n1_ := Aq.mk (Kd.R_lower ho0 (bQZ tB))
  have n2_ := Aq.mk (bQT tB hb)
  clear HO_4
  clear HB
  have HO_4 := n0_
  have HO600 := n1_
  have HB := n2_
  clear n0_ n1_ n2_
  (try clear hb)
  (try clear hb2)
  (try clear hk)
  (try clear hi)
  (try clear ho0)
  obtain ⟨Ao14, co14, eo14⟩ := Kd.R_slice HO600.out
  (first | subst eo14 | (injection eo14 with f1_ f2_ f3_; have f4_ := f1_.symm; have f5_ := f3_.symm; clear f1_ f2_ f3_; subst f4_; subst f5_))
  refine hK.out _ _ ⟨(tcw tB hw595_0), (tcw tB hw595_1), (tcw tB hw596_0), (tcw tB hw596_1)⟩ (fun hHeld => ?_)
  clear hK K
  refine tN 28 ?_
  refine one_ (i := 12) (N := some 29) (bm 15 8191) rfl rfl (one_of HT_.out (by kernel_rfl)) (by decide) (fun K hK => ?_)
  refine value_ (w1 := ?_) (v := ?_) (by rfl) rfl ?_ ?_
  rotate_left 2
  ·go_simp
   constructor
   ·rfl
   rfl
  refine hK.out _ _ ⟨(World.cell?_alloc_lt _ _ _ (World.block_lt_of_cell? _ _ ((tcw tB hw595_0)))).trans ((tcw tB hw595_0)), (World.cell?_alloc_lt _ _ _ (World.block_lt_of_cell? _ _ ((tcw tB hw595_1)))).trans ((tcw tB hw595_1)), (World.cell?_alloc_lt _ _ _ (World.block_lt_of_cell? _ _ ((tcw tB hw596_0)))).trans ((tcw tB hw596_0)), (World.cell?_alloc_lt _ _ _ (World.block_lt_of_cell? _ _ ((tcw tB hw596_1)))).trans ((tcw tB hw596_1))⟩ (fun hHeld => ?_)
  clear hK K
  refine tN 29 ?_
  refine one_ (i := 13) (N := some 30) (bm 15 16383) rfl rfl (one_of HT_.out (by kernel_rfl)) (by decide) (fun K hK => ?_)
  refine Kd.S_append_step k63 (w0 := w) w.heap.size (by rfl) (.tmp 17) (.tmp 29) 51 63 (.agg #[(.int .i64 0), (.slice none 0 0)]) 32 rfl Try.underlying51 info63 rfl (by decide) (by omega) u4 x4_1 (⟨t597, t598⟩ : S63) [.int .i64 t597, .slice Ao14 t598.length co14] (fun _ => True) (fun k_ => some k_ = (.slice Ao14 t598.length co14 : Value).ownBlock) rfl rfl ?aP (fun k_ hk_ => ((Kd.R_mono (ok' := fun k_ => ((fun _ => True)) k_ ∧ some k_ ≠ (u4 : Value).ownBlock) (Kd.R_apart' (HO600.out) (Kd.S_typed HO_4.out) (by decide)) (fun k_ hk => ⟨trivial, hk.2⟩))).1 k_ hk_.symm) ?aF ?aO ?aB ?aS ?aL ?_
  (case aP => exact k63_mkM _ _ _ (⟨t597, t598⟩ : S63) (Kd.R_mono (Kd.R_tight rfl (Kd.R_mono (ok' := fun k_ => ((fun _ => True)) k_ ∧ some k_ ≠ (u4 : Value).ownBlock) (Kd.R_apart' (HO600.out) (Kd.S_typed HO_4.out) (by decide)) (fun k_ hk => ⟨trivial, hk.2⟩))) (fun _ h_ => h_)))
  (case aB => exact tB)
  (case aF => exact (fun _ _ => trivial))
  (case aO => exact (by (with_reducible repeat (first | apply Kd.S_alloc | apply Kd.S_drewN | apply Kd.S_drew)); exact Kd.S_mono HO_4.out (fun k_ hk => ⟨trivial, fun e_ => hk.2 e_⟩)))
  (case aS => exact (bQZ tB))
  (case aL => have := LMc10.out; omega)
  intro v602 w13 ho hb hg hat
  rw [← Ny601.out] at ho
  have n0_ := Aq.mk (hb)
  have n1_ := Aq.mk (ho)
  clear HB
  clear HO_4
  clear HO600
  have HB := n0_
  have HO603 := n1_
  clear n0_ n1_
  clear ho hb hg hat
  refine hK.out _ _ ⟨(tcw tB hw595_0), (tcw tB hw595_1), (tcw tB hw596_0), (tcw tB hw596_1)⟩ (fun hHeld => ?_)
  clear hK K
  refine tN 30 ?_
  refine tP0 14 4 (bm 15 32767) ?_
  refine done_ (done_of HT_.out (by kernel_rfl)) ?_
  try go_wp2
  go_roundg k1
  case measure => have := HK1.out; omega
  case rel => exact ⟨(y601), (wrap64 (x5_1 + 1)), tS, H', ⟨by have := HK1.out; omega⟩, ⟨by (with_reducible repeat (first | apply Kd.S_alloc | apply Kd.S_drewN | apply Kd.S_drew)); exact HO603.out⟩, ⟨tB⟩⟩
def impl_lead.l0 : Nat → Int → Int → Option (Int)
  | 0, _, _ => none
  | k + 1, x0, x3 => if 0 ≤ x3 then (if (Go.bits .and .i64 (shr .i64 x0 x3) 1) = 0 then (impl_lead.l0 k x0 (wrap64 (x3 + 1))) else (some x3)) else (none)
def impl_lead.f (k : Nat) (a0 : Int) : Option (Int) := impl_lead.l0 k a0 0
theorem impl_lead.mono_l : ∀ k, (∀ y0 y1, LeO (impl_lead.l0 k y0 y1) (impl_lead.l0 (k + 1) y0 y1))
 | 0 => fun _ _ r h => by simp [impl_lead.l0] at h
 | k + 1 => by
  have ih0 := impl_lead.mono_l k
  ·intro y0 y1
   unfold impl_lead.l0
   repeat' first
   | (with_reducible first | apply ih0 | exact LeO.refl _ | exact LeO.none _ | refine LeO.ite ?_ ?_ | refine LeO.bind ?_ (fun _ => ?_))
   | exact LeO.none _
   | refine LeO.ite ?_ ?_
   | refine LeO.bind ?_ (fun _ => ?_)
theorem impl_lead.mono : ∀ a0 k, LeO (impl_lead.f k a0) (impl_lead.f (k + 1) a0) := by
 intro a0 k
 have ih0 := impl_lead.mono_l k
 unfold impl_lead.f
 repeat' first
  | (with_reducible first | apply ih0 | exact LeO.refl _ | exact LeO.none _ | refine LeO.ite ?_ ?_ | refine LeO.bind ?_ (fun _ => ?_))
  | exact LeO.none _
  | refine LeO.ite ?_ ?_
  | refine LeO.bind ?_ (fun _ => ?_)
theorem impl_lead.calls (k : Nat) (a0 : Int) (r : Int) (w : World) (h : impl_lead.f k a0 = some r) :
 Calls Try.prog 87 #[.int .i64 a0] w fun e w' => e = .returned (.int .i64 r) ∧ Dq w w' := by
 have H : (impl_lead.l0 k a0 0) = some r := h
 clear h
 replace H' := Aq.mk H
 clear H
 go_enter Try.func87, Try.ntmps87
 go_wp2
 go_loopg [3] k (fun kq v3 w' => ∃ (x3_1 : Int), v3 = .int .i64 x3_1 ∧ Aq (impl_lead.l0 kq a0 x3_1 = some r) ∧ Aq (kq ≤ k) ∧ Dq w w')
 case atStart => exact ⟨(0), tS, H', ⟨Nat.le_refl _⟩, tD⟩
 clear H'
 obtain ⟨x3_1, rfl, HA, HK1, ⟨m1, rfl⟩⟩ := hrel
 cases gk with
 | zero => exact absurd HA.out (by simp [impl_lead.l0])
 | succ k1 =>
  have H := HA.out
  clear HA
  simp only [impl_lead.l0] at H
  by_cases c2 : 0 ≤ x3_1
  rotate_left
  ·rw [if_neg c2] at H
   exact absurd H (by simp)
  rw [if_pos c2] at H
  have c2b0 := eq_true c2
  have c2b1 := decide_eq_true c2
  clear c2
  obtain ⟨ji3, hji3⟩ : ∃ j_ : Int, (shr .i64 a0 x3_1) = j_ := ⟨_, rfl⟩
  first | rw [hji3] at H | simp only [hji3] at H | skip
  have hji3_ : (a0 / 2 ^ min x3_1.toNat 64) = ji3 := hji3
  have hji3z : x3_1 ≤ 64 → (a0 / 2 ^ x3_1.toNat) = ji3 := shr_small hji3
  by_cases c4 : (Go.bits .and .i64 (ji3) 1) = 0
  rotate_left
  ·rw [if_neg c4] at H
   have c4b0 := beq_eq_false_iff_ne.mpr c4
   have c4b1 := bne_iff_ne.mpr c4
   obtain rfl := Option.some.inj H
   go_wp2
   go_ret
   exact ⟨by first | rfl | (simp; done) | (simp only [← hji3] <;> (first | rfl | simp)) | (simp [*]; done), tD⟩
  rw [if_pos c4] at H
  have c4b0 := beq_iff_eq.mpr c4
  have c4b1 := bne_eq_false_iff_eq.mpr c4
  clear c4
  replace H' := Aq.mk H
  clear H
  go_wp2
  go_roundg k1
  case measure => have := HK1.out; omega
  case rel => exact ⟨(wrap64 (x3_1 + 1)), tS, H', ⟨by have := HK1.out; omega⟩, tD⟩
end Go.Proofs.Ytbalkaphibnpcaa.P
