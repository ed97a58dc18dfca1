/- Functions of the program and what they tell, as the printing program wrote it. -/
import Derived.Test.YtbalkaphibnpcaaPx0
import Derived.Test.YtbalkaphibnpcaaPx2
import Derived.Test.YtbalkaphibnpcaaPx22
namespace Go.Proofs.Ytbalkaphibnpcaa.P
open Go.Shelf Go.RowKit Go.Proofs.YtbalkaphibnpcaaW.PrintWords Go.Proofs.YtbalkaphibnpcaaW.PrintLast Go.Proofs.YtbalkaphibnpcaaW.PrintMore
attribute [local go_sem] max2_int min2_int max_two min_two max_three min_three max_four min_four
set_option linter.unusedVariables false
set_option linter.unusedSimpArgs false
set_option maxHeartbeats 8000000
set_option maxRecDepth 100000
mutual
def impl_echelon.l0 : Nat → List Int → Int → Int → Option (List Int)
  | 0, _, _, _ => none
  | k + 1, x0, x3, x625000 => if x625000 < 62 then (impl_echelon.j1 k x0 x3 (decide (x3 < (x0.length : Int))) x625000) else (impl_echelon.j1 k x0 x3 false x625000)
def impl_echelon.j1 : Nat → List Int → Int → Bool → Int → Option (List Int)
  | 0, _, _, _, _ => none
  | k + 1, x0, x3, x16, x625000 => if x16 = true then (if 0 ≤ x3 then (if x3 ≤ (x0.length : Int) then ((slices_IndexFunc_int64_int64_AT_impl_echelon_1.f k (x0.drop (x3 : Int).toNat) x625000).bind fun t632 => (if t632 < 0 then (impl_echelon.l0 k x0 x3 (wrap64 (x625000 + 1))) else (if 0 ≤ (wrap64 (x3 + t632)) then (if (wrap64 (x3 + t632)) < (x0.length : Int) then (if x3 < (x0.length : Int) then (impl_echelon.l1 k ((x0.set (x3 : Int).toNat (rd x0 (wrap64 (x3 + t632)))).set ((wrap64 (x3 + t632)) : Int).toNat (rd x0 x3)) x3 (x0.length : Int) 0 x625000) else (none)) else (none)) else (none)))) else (none)) else (none)) else (if 0 ≤ x3 then (if x3 ≤ (x0.length : Int) then (some (x0.take (x3 : Int).toNat)) else (none)) else (none))
def impl_echelon.l1 : Nat → List Int → Int → Int → Int → Int → Option (List Int)
  | 0, _, _, _, _, _ => none
  | k + 1, x0, x3, x45, x46, x625000 => if x46 < x45 then (if x46 = x3 then (impl_echelon.l1 k x0 x3 x45 (wrap64 (x46 + 1)) x625000) else (if 0 ≤ x46 then (if x46 < (x0.length : Int) then (if 0 ≤ x625000 then (if (Go.bits .and .i64 (shr .i64 (rd x0 x46) x625000) 1) = 1 then (if 0 ≤ x3 then (if x3 < (x0.length : Int) then (impl_echelon.l1 k (x0.set (x46 : Int).toNat (Go.bits .xor .i64 (rd x0 x46) (rd x0 x3))) x3 x45 (wrap64 (x46 + 1)) x625000) else (none)) else (none)) else (impl_echelon.l1 k x0 x3 x45 (wrap64 (x46 + 1)) x625000)) else (none)) else (none)) else (none))) else (impl_echelon.l0 k x0 (wrap64 (x3 + 1)) (wrap64 (x625000 + 1)))
end
def impl_echelon.f (k : Nat) (l0 : List Int) : Option (List Int) := (slices_Clone_int64_int64.f l0).bind fun t621 => (impl_echelon.l0 k t621 0 0)
theorem impl_echelon.mono_l : ∀ k, (∀ y0 y1 y2, LeO (impl_echelon.l0 k y0 y1 y2) (impl_echelon.l0 (k + 1) y0 y1 y2)) ∧ (∀ y0 y1 y2 y3, LeO (impl_echelon.j1 k y0 y1 y2 y3) (impl_echelon.j1 (k + 1) y0 y1 y2 y3)) ∧ (∀ y0 y1 y2 y3 y4, LeO (impl_echelon.l1 k y0 y1 y2 y3 y4) (impl_echelon.l1 (k + 1) y0 y1 y2 y3 y4))
 | 0 => ⟨fun _ _ _ r h => by simp [impl_echelon.l0] at h, fun _ _ _ _ r h => by simp [impl_echelon.j1] at h, fun _ _ _ _ _ r h => by simp [impl_echelon.l1] at h⟩
 | k + 1 => by
  obtain ⟨ih0, ih1, ih2⟩ := impl_echelon.mono_l k
  refine ⟨?_, ?_, ?_⟩ <;> intros <;> first | unfold impl_echelon.l0 | unfold impl_echelon.j1 | unfold impl_echelon.l1
  all_goals repeat' first
   | (with_reducible first | apply ih0 | apply ih1 | apply ih2 | apply slices_IndexFunc_int64_int64_AT_impl_echelon_1.mono | exact LeO.refl _ | exact LeO.none _ | refine LeO.ite ?_ ?_ | refine LeO.bind ?_ (fun _ => ?_))
   | exact LeO.none _
   | refine LeO.ite ?_ ?_
   | refine LeO.bind ?_ (fun _ => ?_)
theorem impl_echelon.mono : ∀ a0 k, LeO (impl_echelon.f k a0) (impl_echelon.f (k + 1) a0) := by
 intro a0 k
 obtain ⟨ih0, ih1, ih2⟩ := impl_echelon.mono_l k
 unfold impl_echelon.f
 repeat' first
  | (with_reducible first | apply ih0 | apply ih1 | apply ih2 | apply slices_IndexFunc_int64_int64_AT_impl_echelon_1.mono | exact LeO.refl _ | exact LeO.none _ | refine LeO.ite ?_ ?_ | refine LeO.bind ?_ (fun _ => ?_))
  | exact LeO.none _
  | refine LeO.ite ?_ ?_
  | refine LeO.bind ?_ (fun _ => ?_)
def impl_echelon.T8 : Bool × List (List Nat × List Nat) := (true, [([], []), ([], []), ([], []), ([], []), ([], []), ([3, 4], [3, 4]), ([], []), ([], []), ([], []), ([7, 8], [7, 8]), ([6, 9], [6, 9]), ([10], [10]), ([], []), ([], []), ([12, 13], [12, 13]), ([14], [14]), ([0, 1, 0, 1, 6, 7, 8, 9, 10, 11, 15], [0, 1]), ([16, 11, 0, 1, 6, 7, 8, 9, 10, 11, 15], [11, 16]), ([2, 5, 0, 1, 2, 3, 4, 5, 6, 7, 8, 9, 10, 11, 12, 13, 14, 15, 16, 17], [2, 5]), ([18, 15, 17, 0, 1, 2, 3, 4, 5, 6, 7, 8, 9, 10, 11, 12, 13, 14, 15, 16, 17], [15, 18])])
def impl_echelon.B8 : List Nat := [0, 0, 0, 0, 0, 24, 0, 0, 0, 384, 960, 1984, 0, 0, 12288, 28672, 65475, 131011, 262143, 524287]
theorem impl_echelon.tab8 : rtab .any (opsOf Try.f86 8) = impl_echelon.T8 := by kernel_rfl
theorem impl_echelon.bits8 : waitsOk impl_echelon.T8.2 impl_echelon.B8 = true := by kernel_rfl
def impl_echelon.T12 : Bool × List (List Nat × List Nat) := (true, [([], []), ([], []), ([0, 1], [0, 1]), ([2], [2]), ([3], [3]), ([3], [3]), ([4, 5, 3], [3, 4, 5]), ([6, 3], [3, 6]), ([3], [3]), ([7, 8, 3], [3, 7, 8]), ([9, 3], [3, 9]), ([10, 3], [3, 10]), ([3, 11], [3, 11])])
def impl_echelon.B12 : List Nat := [0, 0, 3, 7, 15, 15, 63, 127, 15, 511, 1023, 2047, 4095]
theorem impl_echelon.tab12 : rtab .any (opsOf Try.f86 12) = impl_echelon.T12 := by kernel_rfl
theorem impl_echelon.bits12 : waitsOk impl_echelon.T12.2 impl_echelon.B12 = true := by kernel_rfl
def impl_echelon.T13 : Bool × List (List Nat × List Nat) := (true, [([], []), ([], []), ([0, 1], [0, 1]), ([2], [2]), ([], []), ([], []), ([4, 5], [4, 5]), ([6], [6]), ([3, 7], [3, 7]), ([0, 1, 0, 1, 2, 3, 4, 5, 6, 7, 8], [0, 1]), ([9, 8, 0, 1, 2, 3, 4, 5, 6, 7, 8], [8, 9])])
def impl_echelon.B13 : List Nat := [0, 0, 3, 7, 0, 0, 48, 112, 255, 511, 1023]
theorem impl_echelon.tab13 : rtab .any (opsOf Try.f86 13) = impl_echelon.T13 := by kernel_rfl
theorem impl_echelon.bits13 : waitsOk impl_echelon.T13.2 impl_echelon.B13 = true := by kernel_rfl
theorem impl_echelon.calls (k : Nat) (A0 : Option Addr) (c0 : Nat) (l0 : List Int) (r : List Int) (w : World) (hr0 : Kd.C (Kd.int .i64) w A0 l0.length l0) (hc0 : l0.length ≤ c0) (h : impl_echelon.f k l0 = some r) :
 Calls Try.prog 86 #[.slice A0 l0.length c0] w fun e w' => ∃ v0_ : Value, e = .returned (v0_) ∧ Kd.R (Kd.int .i64) 2 w' w.heap.size (fun _ => True) v0_ r ∧ Below w.heap.size w w' := by
 have HR0 := Aq.mk hr0
 have HC0 := Aq.mk hc0
 clear hr0 hc0
 have HB := Aq.mk (Below.refl w.heap.size w)
 have H : ((slices_Clone_int64_int64.f l0).bind fun t621 => (impl_echelon.l0 k t621 0 0)) = some r := h
 clear h
 obtain ⟨t621, A2, H⟩ := qBd H
 replace H' := Aq.mk H
 clear H
 go_enter Try.func86, Try.ntmps86
 go_wp2_with (first | ((with_reducible refine gQc (f := 73) rfl ?_); refine goesL_ (some 8) rfl rfl Try.func73 (by kernel_rfl) rfl #[.slice A0 l0.length c0] rfl tL ?_; (with_reducible refine (slices_Clone_int64_int64.calls _ _ l0 t621 _ ?s1 ?s2 A2.out).mono ?_); (case s1 => exact tC HR0.out); (case s2 => exact HC0.out); rintro e w3 ⟨v622, rfl, ho0, hb⟩; refine ⟨_, rfl, ?_⟩; refine qM2 (Kd.R_lower ho0 (bQZ tB)) (bQT tB hb) ?_; clear HB; intro HO623 HB; (try clear hb); (try clear hb2); (try clear hk); (try clear hi); (try clear ho0)) | ((with_reducible refine gQd (N := 4) rfl ?_); (try (refine gate_guard (by rfl) ?_; dsimp only)); refine xQe ?hg (N := 4) ?hd (cs := #[.int .i64 0]) (t := 3) ?hr ?_; (case hd => rfl); (case hg => rfl); (case hr => exact tH); intro gb624 hg w4 hbox hb; refine qM5 (Kd.R_below (tR HO623.out) hb) (bQT tB hb) hbox (tZ w hg) (tZ w hg) ?_; clear HO623 HB; intro HO623 HB BK624 GW624 GE624; clear hb hbox hg; have hcz5_0 : w4.cell? ⟨gb624, 0, none⟩ = some (.int .i64 0) := (kQC BK624.out 0).trans rfl; have hfz5_0 := kQF BK624.out 0))
 go_loopg [3, 4] k (fun kq v3 v4 w' => ∃ (gm624 : Nat) (x0_1 : List Int) (x3_1 : Int) (x625000_1 : Int), v4 = .pointer (some ⟨gm624, 0, none⟩) ∧ Aq (w.heap.size ≤ gm624) ∧ Aq (w.heap.size ≤ gm624) ∧ v3 = .int .i64 x3_1 ∧ Aq (impl_echelon.l0 kq x0_1 x3_1 x625000_1 = some r) ∧ Aq (kq ≤ k) ∧ Aq (Kd.R (Kd.int .i64) 2 w' w.heap.size (fun _ => True) v622 x0_1) ∧ Aq (w'.heap[gm624]? = some (.cells #[.int .i64 x625000_1] 3 (0, 0))) ∧ Aq (Below w.heap.size w w'))
 case atStart => exact ⟨(gb624), (t621), (0), (0), rfl, GW624, GE624, tS, H', ⟨Nat.le_refl _⟩, ⟨by (with_reducible repeat (first | apply Kd.RqA | apply Kd.RqN | apply Kd.RqD)); exact Kd.R_mono (Kd.R_far (p := ⟨gb624, 0, none⟩) (Kd.R_types HO623.out BK624.out (by decide)) (fun _ hk => hk.2) (.int .i64 0)) (fun _ hk => trivial)⟩, ⟨by (with_reducible repeat (first | refine kQN ?_ _ | refine kQD ?_ | refine kQA ?_ _)); refine kQP (cs := #[.int .i64 0]) ?_ 0 _ rfl; (with_reducible repeat (first | refine kQN ?_ _ | refine kQD ?_ | refine kQA ?_ _)); exact BK624.out⟩, ⟨tB⟩⟩
 clear H'
 try clear hcz5_0
 try clear hfz5_0
 obtain ⟨gm624, x0_1, x3_1, x625000_1, rfl, GW624, GE624, rfl, HA, HK1, HO_0, BK624, HB⟩ := hrel
 cases gk with
 | zero => exact absurd HA.out (by simp [impl_echelon.l0])
 | succ k1 =>
  have H := HA.out
  clear HA
  simp only [impl_echelon.l0] at H
  have HC6 := Aq.mk H
  clear H
  go_upto_region 4 with (fail)
  go_cut [16] (fun v16 wc => ∃ (kq : Nat) (x16_5 : Bool), v16 = .bool x16_5 ∧ Aq (impl_echelon.j1 kq x0_1 x3_1 x16_5 x625000_1 = some r) ∧ Aq (kq ≤ k1) ∧ Aq (Kd.R (Kd.int .i64) 2 wc w.heap.size (fun _ => True) v622 x0_1) ∧ Aq (wc.heap[gm624]? = some (.cells #[.int .i64 x625000_1] 3 (0, 0))) ∧ Aq (Below w.heap.size w wc))
  case first =>
   have H := HC6.out
   clear HC6
   by_cases c7 : x625000_1 < 62
   rotate_left
   ·rw [if_neg c7] at H
    have c7b0 := decide_eq_false c7
    clear c7
    (first | rw [c7b0] | (simp only [i64_w, i32_w]; rw [c7b0]) | skip)
    replace H' := Aq.mk H
    clear H
    have hcz10_0 : wr.cell? ⟨gm624, 0, none⟩ = some (.int .i64 x625000_1) := (kQC BK624.out 0).trans rfl
    have hfz10_0 := kQF BK624.out 0
    go_wp2
    go_meet
    case rel => exact ⟨_, (false), tS, H', ⟨by have := HK1.out; first | omega | exact Nat.le_refl _⟩, ⟨tR HO_0.out⟩, ⟨tG BK624.out⟩, ⟨tB⟩⟩
   rw [if_pos c7] at H
   have c7b0 := decide_eq_true c7
   clear c7
   (first | rw [c7b0] | (simp only [i64_w, i32_w]; rw [c7b0]) | skip)
   replace H' := Aq.mk H
   clear H
   have hcz8_0 : wr.cell? ⟨gm624, 0, none⟩ = some (.int .i64 x625000_1) := (kQC BK624.out 0).trans rfl
   have hfz8_0 := kQF BK624.out 0
   obtain ⟨Ao9, co9, eo9⟩ := Kd.R_slice HO_0.out
   subst eo9
   go_wp2
   go_meet
   case rel => exact ⟨_, (decide (x3_1 < (x0_1.length : Int))), tS, H', ⟨by have := HK1.out; first | omega | exact Nat.le_refl _⟩, ⟨tR HO_0.out⟩, ⟨tG BK624.out⟩, ⟨tB⟩⟩
  clear HC6
  try clear c7
  try clear c7b0
  try clear hcz10_0
  try clear hcz5_0
  try clear hcz8_0
  try clear hfz10_0
  try clear hfz5_0
  try clear hfz8_0
  obtain ⟨kq, x16_5, rfl, HA, HJ5, HO_0, BK624, HB⟩ := hcut
  cases kq with
  | zero => exact absurd HA.out (by simp [impl_echelon.j1])
  | succ kj5 =>
   have H := HA.out
   clear HA
   simp only [impl_echelon.j1] at H
   by_cases c11 : x16_5 = true
   rotate_left
   ·replace c11 := Bool.eq_false_iff.mpr c11
    subst c11
    rw [if_neg (show ¬ (false = true) by decide)] at H
    by_cases c52 : 0 ≤ x3_1
    rotate_left
    ·rw [if_neg c52] at H
     exact absurd H (by simp)
    rw [if_pos c52] at H
    have c52b0 := eq_true c52
    have c52b1 := decide_eq_true c52
    clear c52
    by_cases c53 : x3_1 ≤ (x0_1.length : Int)
    rotate_left
    ·rw [if_neg c53] at H
     exact absurd H (by simp)
    rw [if_pos c53] at H
    have c53b0 := eq_true c53
    have c53b1 := decide_eq_true c53
    clear c53
    obtain ⟨y625, hy625⟩ : ∃ y_ : List Int, y_ = (x0_1.take (x3_1 : Int).toNat) := ⟨_, rfl⟩
    replace H : (some y625) = some r := by first | (rw [hy625]; with_reducible exact H) | (have H2_ := (Option.bind_some _ _).symm.trans H; rw [hy625]; with_reducible exact H2_) | (have H2_ := (Option.bind_some _ _).symm.trans H; with_reducible exact H2_) | with_reducible exact H | (rw [hy625]; exact H) | exact H
    have Ny625 := Aq.mk hy625
    clear hy625
    obtain rfl := Option.some.inj H
    obtain ⟨Ao54, co54, eo54⟩ := Kd.R_slice HO_0.out
    subst eo54
    have q55 : (x3_1 : Int) ≤ ((x0_1.length : Int) : Int) := of_decide_eq_true tA
    obtain ⟨i055, hi055, _, hsz55, _⟩ := info_parts info2
    have hcut55 := cut_to (P := Try.prog) 38 2 .i64 Try.underlying38 hi055 Ao54 x0_1.length co54 x3_1 (of_decide_eq_true tA) q55 (Kd.R_reads' HO_0.out).2.1
    have hr55 := Kd.R_take (m := (x3_1 : Int).toNat) HO_0.out (by omega)
    have hy55 : y625.length = (x3_1 : Int).toNat := (by rw [Ny625.out, List.length_take]; omega)
    rw [← Ny625.out] at hr55
    rw [← hy55] at hr55 hcut55
    clear hy55 hi055 hsz55 HO_0
    have HO627 := Aq.mk hr55
    clear hr55
    replace q55 := eq_true q55
    go_wp2
    go_ret
    exact ⟨_, tE, tR HO627.out, tB⟩
   subst c11
   rw [if_pos rfl] at H
   by_cases c12 : 0 ≤ x3_1
   rotate_left
   ·rw [if_neg c12] at H
    exact absurd H (by simp)
   rw [if_pos c12] at H
   have c12b0 := eq_true c12
   have c12b1 := decide_eq_true c12
   clear c12
   by_cases c13 : x3_1 ≤ (x0_1.length : Int)
   rotate_left
   ·rw [if_neg c13] at H
    exact absurd H (by simp)
   rw [if_pos c13] at H
   have c13b0 := eq_true c13
   have c13b1 := decide_eq_true c13
   clear c13
   obtain ⟨y628, hy628⟩ : ∃ y_ : List Int, y_ = (x0_1.drop (x3_1 : Int).toNat) := ⟨_, rfl⟩
   replace H : ((slices_IndexFunc_int64_int64_AT_impl_echelon_1.f kj5 y628 x625000_1).bind fun t632 => (if t632 < 0 then (impl_echelon.l0 kj5 x0_1 x3_1 (wrap64 (x625000_1 + 1))) else (if 0 ≤ (wrap64 (x3_1 + t632)) then (if (wrap64 (x3_1 + t632)) < (x0_1.length : Int) then (if x3_1 < (x0_1.length : Int) then (impl_echelon.l1 kj5 ((x0_1.set (x3_1 : Int).toNat (rd x0_1 (wrap64 (x3_1 + t632)))).set ((wrap64 (x3_1 + t632)) : Int).toNat (rd x0_1 x3_1)) x3_1 (x0_1.length : Int) 0 x625000_1) else (none)) else (none)) else (none)))) = some r := by first | (rw [hy628]; with_reducible exact H) | (have H2_ := (Option.bind_some _ _).symm.trans H; rw [hy628]; with_reducible exact H2_) | (have H2_ := (Option.bind_some _ _).symm.trans H; with_reducible exact H2_) | with_reducible exact H | (rw [hy628]; exact H) | exact H
   have Ny628 := Aq.mk hy628
   clear hy628
   obtain ⟨t632, A14, H⟩ := qBd H
   by_cases c15 : t632 < 0
   ·rw [if_pos c15] at H
    have c15b0 := decide_eq_true c15
    clear c15
    replace H' := Aq.mk H
    clear H
    obtain ⟨Ao17, co17, eo17⟩ := Kd.R_slice HO_0.out
    subst eo17
    have q16 : (x3_1 : Int) ≤ ((x0_1.length : Int) : Int) := of_decide_eq_true tA
    obtain ⟨i016, hi016, _, hsz16, _⟩ := info_parts info2
    have hroom16 : x0_1.length ≤ co17 := (Kd.R_reads' HO_0.out).2.1
    have hC16 : Kd.C (Kd.int .i64) _ Ao17 x0_1.length x0_1 := (Kd.R_reads' HO_0.out).2.2
    have q016 : (0 : Int) ≤ (x3_1 : Int) := of_decide_eq_true tA
    have hcut16 := cut_from (P := Try.prog) 38 2 .i64 Try.underlying38 hi016 1 hsz16 Ao17 x0_1.length co17 x3_1 q016 q16
    have hr16 := Kd.C_drop (m := (x3_1 : Int).toNat) (c := co17) hC16 (by omega) hroom16
    obtain ⟨A16, hA16⟩ : ∃ A1, A1 = (if co17 = (x3_1 : Int).toNat then Ao17 else (Ao17 : Option Addr).map (·.add ((x3_1 : Int).toNat * 1))) := ⟨_, rfl⟩
    obtain ⟨c16, hc16⟩ : ∃ c1, c1 = co17 - (x3_1 : Int).toNat := ⟨_, rfl⟩
    have hy16 : y628.length = x0_1.length - (x3_1 : Int).toNat := (by rw [Ny628.out, List.length_drop] <;> omega)
    rw [show (x0_1).drop (x3_1 : Int).toNat = y628 from Ny628.out.symm] at hr16
    replace hr16 : Kd.C (Kd.int .i64) _ A16 y628.length y628 := (by rw [hA16]; exact hr16)
    rw [← hy16, ← hA16, ← hc16] at hcut16
    have HR631 := Aq.mk hr16
    have HC631 := Aq.mk (show y628.length ≤ c16 from by rw [hy16, hc16]; exact Nat.sub_le_sub_right hroom16 _)
    clear hr16 hC16 hroom16 hi016 hsz16 hc16
    have KY16 := Aq.mk hy16
    have KA16 := Aq.mk hA16
    clear hy16 hA16
    have KL16 := Aq.mk (show (x3_1 : Int).toNat ≤ x0_1.length from by omega)
    replace q16 := eq_true q16
    go_wp2_with (first | ((with_reducible refine gQc (f := 111) rfl ?_); refine goesL_ (some 23) rfl rfl Try.func111 (by kernel_rfl) rfl #[.slice A16 y628.length c16, .func (.func 112) #[] #[.pointer (some ⟨gm624, 0, none⟩)]] rfl tL ?_; (with_reducible refine (slices_IndexFunc_int64_int64_AT_impl_echelon_1.calls kj5 _ _ y628 (⟨gm624, 0, none⟩ : Addr) x625000_1 t632 _ ?s1 ?s2 ?s3 A14.out).mono ?_); (case s1 => exact tC ((by repeat (first | (with_reducible exact HR631.out) | (with_reducible refine Kd.CqA ?_ _) | (with_reducible refine Kd.CqN ?_ _) | (with_reducible refine Kd.CqD ?_) | exact HR631.out)))); (case s2 => exact HC631.out); (case s3 => exact AtC.of_blk (g := gm624) (t := 3) (cs := #[.int .i64 x625000_1]) (tG BK624.out) rfl); rintro e w' ⟨rfl, ⟨nd, rfl⟩⟩; refine ⟨_, rfl, ?_⟩; (try (rw [drewN_self wc]; generalize hq_ : World.drewN wc _ = wc; have n0_ : Aq (Kd.R (Kd.int .i64) 2 wc w.heap.size (fun k_ => True) (.slice Ao17 x0_1.length co17) x0_1) := ⟨by rw [← hq_]; exact (tR HO_0.out)⟩; have n1_ : Aq (wc.heap[gm624]? = some (.cells #[.int .i64 x625000_1] 3 (0, 0))) := ⟨by rw [← hq_]; exact (tG BK624.out)⟩; have n2_ : Aq (Below w.heap.size w wc) := ⟨by rw [← hq_]; exact tB⟩; have n3_ : Aq (Kd.C (Kd.int .i64) wc A16 y628.length y628) := ⟨by rw [← hq_]; exact (by repeat (first | (with_reducible exact HR631.out) | (with_reducible refine Kd.CqA ?_ _) | (with_reducible refine Kd.CqN ?_ _) | (with_reducible refine Kd.CqD ?_) | exact HR631.out))⟩; clear HO_0 BK624 HB HR631 hq_; have HO_0 := n0_; have BK624 := n1_; have HB := n2_; have HR631 := n3_; clear n0_ n1_ n2_ n3_)); have hcz18_0 : wc.cell? ⟨gm624, 0, none⟩ = some (.int .i64 x625000_1) := (kQC BK624.out 0).trans rfl; have hfz18_0 := kQF BK624.out 0) | ((with_reducible refine gQd (N := 4) rfl ?_); (try (refine gate_guard (by rfl) ?_; dsimp only)); refine xQe ?hg (N := 4) ?hd (cs := #[.int .i64 0]) (t := 3) ?hr ?_; (case hd => rfl); (case hg => rfl); (case hr => exact tH); intro gb633 hg w19 hbox hb; refine qM9 (Kd.R_below (tR HO_0.out) hb) (tQ BK624.out hb) (Kd.C_below (by repeat (first | (with_reducible exact HR631.out) | (with_reducible refine Kd.CqA ?_ _) | (with_reducible refine Kd.CqN ?_ _) | (with_reducible refine Kd.CqD ?_) | exact HR631.out)) hb) (bQT tB hb) hbox (tZ w hg) (tZ w hg) ((by rw [hg]; exact Nat.ne_of_lt (blk_lt (g := gm624) (o := .cells #[.int .i64 x625000_1] 3 (0, 0)) (tG BK624.out)) : gm624 ≠ gb633)) ((by rw [hg]; exact Nat.ne_of_gt (blk_lt (g := gm624) (o := .cells #[.int .i64 x625000_1] 3 (0, 0)) (tG BK624.out)) : gb633 ≠ gm624)) ?_; clear HO_0 BK624 HR631 HB; intro HO_0 BK624 HR631 HB BK633 GW633 GE633 NB624_633 NB633_624; clear hb hbox hg; have hnb20 := NB633_624.out; have hnc20 := NB624_633.out; have hcz21_0 : w19.cell? ⟨gb633, 0, none⟩ = some (.int .i64 0) := (kQC BK633.out 0).trans rfl; have hfz21_0 := kQF BK633.out 0))
    go_roundg kj5
    case measure => have := HK1.out; have := HJ5.out; omega
    case rel => exact ⟨(gb633), (x0_1), (x3_1), (wrap64 (x625000_1 + 1)), rfl, GW633, GE633, tS, H', ⟨by have := HK1.out; have := HJ5.out; omega⟩, ⟨by (with_reducible repeat (first | apply Kd.RqA | apply Kd.RqN | apply Kd.RqD)); exact Kd.R_mono (Kd.R_far (p := ⟨gb633, 0, none⟩) (Kd.R_far (p := ⟨gb633, 0, none⟩) (Kd.R_types HO_0.out BK633.out (by decide)) (fun _ hk => hk.2) (.int .i64 x625000_1)) (fun _ hk => hk.2) (.int .i64 (wrap64 (x625000_1 + 1)))) (fun _ hk => trivial)⟩, ⟨by (with_reducible repeat (first | refine kQN ?_ _ | refine kQD ?_ | refine kQA ?_ _)); refine kQP (cs := #[.int .i64 x625000_1]) ?_ 0 _ rfl; (with_reducible repeat (first | refine kQN ?_ _ | refine kQD ?_ | refine kQA ?_ _)); refine kQP (cs := #[.int .i64 0]) ?_ 0 _ rfl; (with_reducible repeat (first | refine kQN ?_ _ | refine kQD ?_ | refine kQA ?_ _)); exact BK633.out⟩, ⟨tB⟩⟩
   rw [if_neg c15] at H
   have c15b0 := decide_eq_false c15
   clear c15
   obtain ⟨ji22, hji22⟩ : ∃ j_ : Int, (wrap64 (x3_1 + t632)) = j_ := ⟨_, rfl⟩
   first | rw [hji22] at H | simp only [hji22] at H | skip
   (try rw [hji22] at A14)
   have hji22w : (IntKind.i64.wrap (x3_1 + t632)) = ji22 := (i64_w _).trans hji22
   by_cases c23 : 0 ≤ (ji22)
   rotate_left
   ·rw [if_neg c23] at H
    exact absurd H (by simp)
   rw [if_pos c23] at H
   have c23b0 := decide_eq_true c23
   clear c23
   by_cases c24 : (ji22) < (x0_1.length : Int)
   rotate_left
   ·rw [if_neg c24] at H
    exact absurd H (by simp)
   rw [if_pos c24] at H
   have c24b0 := decide_eq_true c24
   clear c24
   by_cases c25 : x3_1 < (x0_1.length : Int)
   rotate_left
   ·rw [if_neg c25] at H
    exact absurd H (by simp)
   rw [if_pos c25] at H
   have c25b0 := decide_eq_true c25
   clear c25
   obtain ⟨y636, hy636⟩ : ∃ y_ : List Int, y_ = (x0_1.set (x3_1 : Int).toNat (rd x0_1 (ji22))) := ⟨_, rfl⟩
   replace H : (impl_echelon.l1 kj5 (y636.set ((ji22) : Int).toNat (rd x0_1 x3_1)) x3_1 (x0_1.length : Int) 0 x625000_1) = some r := by first | (rw [hy636]; with_reducible exact H) | (have H2_ := (Option.bind_some _ _).symm.trans H; rw [hy636]; with_reducible exact H2_) | (have H2_ := (Option.bind_some _ _).symm.trans H; with_reducible exact H2_) | with_reducible exact H | (rw [hy636]; exact H) | exact H
   have Ny636 := Aq.mk hy636
   clear hy636
   obtain ⟨y637, hy637⟩ : ∃ y_ : List Int, y_ = (y636.set ((ji22) : Int).toNat (rd x0_1 x3_1)) := ⟨_, rfl⟩
   replace H : (impl_echelon.l1 kj5 y637 x3_1 (x0_1.length : Int) 0 x625000_1) = some r := by first | (rw [hy637]; with_reducible exact H) | (have H2_ := (Option.bind_some _ _).symm.trans H; rw [hy637]; with_reducible exact H2_) | (have H2_ := (Option.bind_some _ _).symm.trans H; with_reducible exact H2_) | with_reducible exact H | (rw [hy637]; exact H) | exact H
   have Ny637 := Aq.mk hy637
   clear hy637
   replace H' := Aq.mk H
   clear H
   obtain ⟨Ao29, co29, eo29⟩ := Kd.R_slice HO_0.out
   subst eo29
   have q28 : (x3_1 : Int) ≤ ((x0_1.length : Int) : Int) := of_decide_eq_true tA
   obtain ⟨i028, hi028, _, hsz28, _⟩ := info_parts info2
   have hroom28 : x0_1.length ≤ co29 := (Kd.R_reads' HO_0.out).2.1
   have hC28 : Kd.C (Kd.int .i64) _ Ao29 x0_1.length x0_1 := (Kd.R_reads' HO_0.out).2.2
   have q028 : (0 : Int) ≤ (x3_1 : Int) := of_decide_eq_true tA
   have hcut28 := cut_from (P := Try.prog) 38 2 .i64 Try.underlying38 hi028 1 hsz28 Ao29 x0_1.length co29 x3_1 q028 q28
   have hr28 := Kd.C_drop (m := (x3_1 : Int).toNat) (c := co29) hC28 (by omega) hroom28
   obtain ⟨A28, hA28⟩ : ∃ A1, A1 = (if co29 = (x3_1 : Int).toNat then Ao29 else (Ao29 : Option Addr).map (·.add ((x3_1 : Int).toNat * 1))) := ⟨_, rfl⟩
   obtain ⟨c28, hc28⟩ : ∃ c1, c1 = co29 - (x3_1 : Int).toNat := ⟨_, rfl⟩
   have hy28 : y628.length = x0_1.length - (x3_1 : Int).toNat := (by rw [Ny628.out, List.length_drop] <;> omega)
   rw [show (x0_1).drop (x3_1 : Int).toNat = y628 from Ny628.out.symm] at hr28
   replace hr28 : Kd.C (Kd.int .i64) _ A28 y628.length y628 := (by rw [hA28]; exact hr28)
   rw [← hy28, ← hA28, ← hc28] at hcut28
   have HR631 := Aq.mk hr28
   have HC631 := Aq.mk (show y628.length ≤ c28 from by rw [hy28, hc28]; exact Nat.sub_le_sub_right hroom28 _)
   clear hr28 hC28 hroom28 hi028 hsz28 hc28
   have KY28 := Aq.mk hy28
   have KA28 := Aq.mk hA28
   clear hy28 hA28
   have KL28 := Aq.mk (show (x3_1 : Int).toNat ≤ x0_1.length from by omega)
   replace q28 := eq_true q28
   try go_wp2_with (first | ((with_reducible refine gQc (f := 111) rfl ?_); refine goesL_ (some 23) rfl rfl Try.func111 (by kernel_rfl) rfl #[.slice A28 y628.length c28, .func (.func 112) #[] #[.pointer (some ⟨gm624, 0, none⟩)]] rfl tL ?_; (with_reducible refine (slices_IndexFunc_int64_int64_AT_impl_echelon_1.calls kj5 _ _ y628 (⟨gm624, 0, none⟩ : Addr) x625000_1 t632 _ ?s1 ?s2 ?s3 A14.out).mono ?_); (case s1 => exact tC ((by repeat (first | (with_reducible exact HR631.out) | (with_reducible refine Kd.CqA ?_ _) | (with_reducible refine Kd.CqN ?_ _) | (with_reducible refine Kd.CqD ?_) | exact HR631.out)))); (case s2 => exact HC631.out); (case s3 => exact AtC.of_blk (g := gm624) (t := 3) (cs := #[.int .i64 x625000_1]) (tG BK624.out) rfl); rintro e w' ⟨rfl, ⟨nd, rfl⟩⟩; refine ⟨_, rfl, ?_⟩; (try (rw [drewN_self wc]; generalize hq_ : World.drewN wc _ = wc; have n0_ : Aq (Kd.R (Kd.int .i64) 2 wc w.heap.size (fun k_ => True) (.slice Ao29 x0_1.length co29) x0_1) := ⟨by rw [← hq_]; exact (tR HO_0.out)⟩; have n1_ : Aq (wc.heap[gm624]? = some (.cells #[.int .i64 x625000_1] 3 (0, 0))) := ⟨by rw [← hq_]; exact (tG BK624.out)⟩; have n2_ : Aq (Below w.heap.size w wc) := ⟨by rw [← hq_]; exact tB⟩; have n3_ : Aq (Kd.C (Kd.int .i64) wc A28 y628.length y628) := ⟨by rw [← hq_]; exact (by repeat (first | (with_reducible exact HR631.out) | (with_reducible refine Kd.CqA ?_ _) | (with_reducible refine Kd.CqN ?_ _) | (with_reducible refine Kd.CqD ?_) | exact HR631.out))⟩; clear HO_0 BK624 HB HR631 hq_; have HO_0 := n0_; have BK624 := n1_; have HB := n2_; have HR631 := n3_; clear n0_ n1_ n2_ n3_))))
   have n0_ := Aq.mk (Kd.RqD HO_0.out)
   have n1_ := Aq.mk (kQD BK624.out)
   have n2_ := Aq.mk (Kd.CqD HR631.out)
   have n3_ := Aq.mk (bQ1 HB.out)
   clear HO_0
   clear BK624
   clear HR631
   clear HB
   have HO_0 := n0_
   have BK624 := n1_
   have HR631 := n2_
   have HB := n3_
   clear n0_ n1_ n2_ n3_
   have p634 : 0 ≤ ((ji22) : Int) := of_decide_eq_true tA
   have q634 : (ji22) < (x0_1.length : Int) := of_decide_eq_true tA
   obtain ⟨ad634, e634, hx634_0⟩ := Kd.at_int (Kd.R_reads' HO_0.out).2.2 (ji22) p634 q634
   cases e634
   replace p634 := eq_true p634
   replace q634 := eq_true q634
   have p635 : 0 ≤ (x3_1 : Int) := of_decide_eq_true tA
   have q635 : x3_1 < (x0_1.length : Int) := of_decide_eq_true tA
   obtain ⟨ad635, e635, hx635_0⟩ := Kd.at_int (Kd.R_reads' HO_0.out).2.2 x3_1 p635 q635
   obtain rfl : ad634 = ad635 := (by injection e635)
   replace p635 := eq_true p635
   replace q635 := eq_true q635
   have p26 : 0 ≤ (x3_1 : Int) := of_decide_eq_true tA
   have q26 : (x3_1 : Int) < ((x0_1.length : Int) : Int) := of_decide_eq_true tA
   obtain ⟨go26, co26, eo26, gb26, gl26, cl26, HG26⟩ := Kd.R_form HO_0.out (by omega)
   (first | cases eo26 | (injection eo26 with ea_ en_ ec_; (first | subst ea_ | (injection ea_ with ea_; subst ea_)); subst ec_; clear en_))
   have GB26 := Aq.mk gb26
   have GG26 := Aq.mk HG26
   clear gb26 gl26 HG26
   (first | simp only [add_plain] at hx634_0 | skip)
   (first | simp only [add_plain] at hx635_0 | skip)
   obtain ⟨hx26_0, hf26_0⟩ := Kd.R_celln 0 HO_0.out (x3_1 : Int) p26 q26
   replace p26 := eq_true p26
   replace q26 := eq_true q26
   have HP31 := Kd.R_putn HO_0.out (x3_1 : Int) (rd x0_1 (ji22))
   rw [← Ny636.out] at HP31
   have HQ31 := Aq.mk HP31
   clear HP31
   have p27 : 0 ≤ ((ji22) : Int) := of_decide_eq_true tA
   have q27 : ((ji22) : Int) < ((x0_1.length : Int) : Int) := of_decide_eq_true tA
   obtain ⟨hx27_0, hf27_0⟩ := Kd.R_celln 0 HQ31.out ((ji22) : Int) p27 q27
   replace p27 := eq_true p27
   replace q27 := eq_true q27
   have HP32 := Kd.R_putn HQ31.out ((ji22) : Int) (rd x0_1 x3_1)
   rw [← Ny637.out] at HP32
   have HQ32 := Aq.mk HP32
   clear HP32
   refine start_ (n := 20) (S := fun w' => w'.cell? ⟨go26, ((ji22)).toNat, none⟩ = some (.int .i64 (rd x0_1 (ji22))) ∧ w'.cell? ⟨go26, (x3_1).toNat, none⟩ = some (.int .i64 (rd x0_1 x3_1))) (ds := [17, 19]) #[false, false, false, false, false, false, false, false, false, false, false, false, false, false, false, false, false, false, false, false] (by kernel_rfl) rfl rfl ⟨hx634_0, hx635_0⟩ (fun hHeld => ?_); refine with_tabW impl_echelon.tab8 impl_echelon.bits8 (fun HT_ HW_ => ?_)
   generalize wc.drew = w30 at HO_0 BK624 HR631 HB GG26 HQ31 HQ32 hf26_0 hf27_0 hx26_0 hx27_0 hx634_0 hx635_0 hHeld ⊢
   refine tP0 0 26 (bm 20 1) ?_
   refine tP0 1 27 (bm 20 3) ?_
   refine tP0 2 28 (bm 20 7) ?_
   refine tP0 3 29 (bm 20 15) ?_
   refine tP0 4 30 (bm 20 31) ?_
   refine tP0 5 31 (bm 20 63) ?_
   refine tP0 6 32 (bm 20 127) ?_
   refine tP0 7 33 (bm 20 255) ?_
   refine tP0 8 34 (bm 20 511) ?_
   refine tP0 9 35 (bm 20 1023) ?_
   refine tP0 10 36 (bm 20 2047) ?_
   refine tP0 12 38 (bm 20 6143) ?_
   refine tP0 13 39 (bm 20 14335) ?_
   refine tP0 14 40 (bm 20 30719) ?_
   refine tT2 11 37 (bm 20 32767) ?_
   refine tT2 15 41 (bm 20 65535) ?_
   refine tP0 16 42 (bm 20 131071) ?_
   refine last_ (i := 17) (N := none) #[true, true, true, true, true, true, true, true, true, true, true, true, true, true, true, true, true, true, false, false] rfl rfl (one_of HT_.out (by kernel_rfl)) (by decide) (fun K hK => ?_)
   refine skip_ (w1 := ?_) (by rfl) rfl ?_ ?_
   rotate_left
   ·go_simp
    rfl
   refine hK.out _ _ ?_
   clear hK K
   refine tP0 18 43 (bm 20 524287) ?_
   refine last_ (i := 19) (N := none) #[true, true, true, true, true, true, true, true, true, true, true, true, true, true, true, true, true, true, true, true] rfl rfl (one_of HT_.out (by kernel_rfl)) (by decide) (fun K hK => ?_)
   refine skip_ (w1 := ?_) (by rfl) rfl ?_ ?_
   rotate_left
   ·go_simp
    rfl
   refine hK.out _ _ ?_
   clear hK K
   refine done_ (done_of HT_.out (by kernel_rfl)) ?_
   try go_wp2
   go_loopg [46] kj5 (fun kq v46 w' => ∃ (x0_3 : List Int) (x46_3 : Int), v46 = .int .i64 x46_3 ∧ Aq (impl_echelon.l1 kq x0_3 x3_1 (x0_1.length : Int) x46_3 x625000_1 = some r) ∧ Aq (kq ≤ kj5) ∧ Aq (Kd.R (Kd.int .i64) 2 w' w.heap.size (fun _ => True) (.slice (some ⟨go26, 0, none⟩) x0_1.length co29) x0_3) ∧ Aq (w'.heap[gm624]? = some (.cells #[.int .i64 x625000_1] 3 (0, 0))) ∧ Aq (Below w.heap.size w w'))
   case atStart => exact ⟨(y637), (0), tS, H', ⟨Nat.le_refl _⟩, ⟨tR HQ32.out⟩, ⟨by (with_reducible repeat (first | refine kQN ?_ _ | refine kQD ?_ | refine kQA ?_ _)); refine kQR ?_ (by have h_ := Kd.R_ne HO_0.out BK624.out (by decide); intro e_; exact h_ (by rw [e_]; rfl)) _; (with_reducible repeat (first | refine kQN ?_ _ | refine kQD ?_ | refine kQA ?_ _)); refine kQR ?_ (by have h_ := Kd.R_ne HO_0.out BK624.out (by decide); intro e_; exact h_ (by rw [e_]; rfl)) _; (with_reducible repeat (first | refine kQN ?_ _ | refine kQD ?_ | refine kQA ?_ _)); exact BK624.out⟩, ⟨by repeat (first | (with_reducible first | exact HB.out | apply bQA | apply bQN | apply bQ1 | refine bQS ?_ GB26.out | refine bQS ?_ GB26.out | refine bQS ?_ GE624.out) | exact HB.out)⟩⟩
   clear H'
   try clear c1
   try clear c7
   try clear c7b0
   try clear c11
   try clear c12
   try clear c12b0
   try clear c12b1
   try clear c13
   try clear c13b0
   try clear c13b1
   try clear c15
   try clear c15b0
   try clear c16
   try clear q16
   try clear c23
   try clear c23b0
   try clear c24
   try clear c24b0
   try clear c25
   try clear c25b0
   try clear p26
   try clear q26
   try clear p27
   try clear q27
   try clear c28
   try clear q28
   try clear hcz10_0
   try clear hcz18_0
   try clear hcz21_0
   try clear hcz5_0
   try clear hcz8_0
   try clear hfz10_0
   try clear hfz18_0
   try clear hfz21_0
   try clear hfz5_0
   try clear hfz8_0
   try clear hx26_0
   try clear hx27_0
   try clear hx634_0
   try clear hx635_0
   try clear p26
   try clear p27
   try clear p634
   try clear p635
   try clear q016
   try clear q028
   try clear q16
   try clear q26
   try clear q27
   try clear q28
   try clear q634
   try clear q635
   obtain ⟨x0_3, x46_3, rfl, HA, HK3, HO_0, BK624, HB⟩ := hrel
   have hl0_3 := (Kd.R_reads' HO_0.out).1
   rw [hl0_3] at HO_0
   (try simp only [hl0_3])
   (try simp only [hl0_3] at BK624)
   cases gk with
   | zero => exact absurd HA.out (by simp [impl_echelon.l1])
   | succ k3 =>
    have H := HA.out
    clear HA
    simp only [impl_echelon.l1] at H
    by_cases c33 : x46_3 < (x0_1.length : Int)
    rotate_left
    ·rw [if_neg c33] at H
     have c33b0 := decide_eq_false c33
     clear c33
     (try (have c33b0z := c33b0; simp only [hl0_3] at c33b0z))
     replace H' := Aq.mk H
     clear H
     have hcz48_0 : wr.cell? ⟨gm624, 0, none⟩ = some (.int .i64 x625000_1) := (kQC BK624.out 0).trans rfl
     have hfz48_0 := kQF BK624.out 0
     go_wp2_with (first | ((with_reducible refine gQd (N := 4) rfl ?_); (try (refine gate_guard (by rfl) ?_; dsimp only)); refine xQe ?hg (N := 4) ?hd (cs := #[.int .i64 0]) (t := 3) ?hr ?_; (case hd => rfl); (case hg => rfl); (case hr => exact tH); intro gb642 hg w49 hbox hb; refine qM8 (Kd.R_below (tR HO_0.out) hb) (tQ BK624.out hb) (bQT tB hb) hbox (tZ w hg) (tZ w hg) ((by rw [hg]; exact Nat.ne_of_lt (blk_lt (g := gm624) (o := .cells #[.int .i64 x625000_1] 3 (0, 0)) (tG BK624.out)) : gm624 ≠ gb642)) ((by rw [hg]; exact Nat.ne_of_gt (blk_lt (g := gm624) (o := .cells #[.int .i64 x625000_1] 3 (0, 0)) (tG BK624.out)) : gb642 ≠ gm624)) ?_; clear HO_0 BK624 HB; intro HO_0 BK624 HB BK642 GW642 GE642 NB624_642 NB642_624; clear hb hbox hg; have hnb50 := NB642_624.out; have hnc50 := NB624_642.out; have hcz51_0 : w49.cell? ⟨gb642, 0, none⟩ = some (.int .i64 0) := (kQC BK642.out 0).trans rfl; have hfz51_0 := kQF BK642.out 0))
     (try simp only [← hl0_3])
     go_roundg k3
     case measure => have := HK1.out; have := HJ5.out; have := HK3.out; omega
     case rel => exact ⟨(gb642), (x0_3), (wrap64 (x3_1 + 1)), (wrap64 (x625000_1 + 1)), rfl, GW642, GE642, tS, H', ⟨by have := HK1.out; have := HJ5.out; have := HK3.out; omega⟩, ⟨by (try simp only [hl0_3]); (with_reducible repeat (first | apply Kd.RqA | apply Kd.RqN | apply Kd.RqD)); exact Kd.R_mono (Kd.R_far (p := ⟨gb642, 0, none⟩) (Kd.R_far (p := ⟨gb642, 0, none⟩) (Kd.R_types HO_0.out BK642.out (by decide)) (fun _ hk => hk.2) (.int .i64 x625000_1)) (fun _ hk => hk.2) (.int .i64 (wrap64 (x625000_1 + 1)))) (fun _ hk => trivial)⟩, ⟨by (try simp only [hl0_3]); (with_reducible repeat (first | refine kQN ?_ _ | refine kQD ?_ | refine kQA ?_ _)); refine kQP (cs := #[.int .i64 x625000_1]) ?_ 0 _ rfl; (with_reducible repeat (first | refine kQN ?_ _ | refine kQD ?_ | refine kQA ?_ _)); refine kQP (cs := #[.int .i64 0]) ?_ 0 _ rfl; (with_reducible repeat (first | refine kQN ?_ _ | refine kQD ?_ | refine kQA ?_ _)); exact BK642.out⟩, ⟨tB⟩⟩
    rw [if_pos c33] at H
    have c33b0 := decide_eq_true c33
    clear c33
    (try (have c33b0z := c33b0; simp only [hl0_3] at c33b0z))
    by_cases c34 : x46_3 = x3_1
    ·rw [if_pos c34] at H
     have c34b0 := beq_iff_eq.mpr c34
     have c34b1 := bne_eq_false_iff_eq.mpr c34
     clear c34
     (try (have c34b0z := c34b0; simp only [hl0_3] at c34b0z))
     (try (have c34b1z := c34b1; simp only [hl0_3] at c34b1z))
     replace H' := Aq.mk H
     clear H
     try go_wp2
     have n0_ := Aq.mk (Kd.RqD HO_0.out)
     have n1_ := Aq.mk (kQD BK624.out)
     have n2_ := Aq.mk (bQ1 HB.out)
     clear HO_0
     clear BK624
     clear HB
     have HO_0 := n0_
     have BK624 := n1_
     have HB := n2_
     clear n0_ n1_ n2_
     refine start_ (n := 13) (S := fun w' => True) (ds := []) #[false, false, false, false, false, false, false, false, false, false, false, false, false] (by kernel_rfl) rfl rfl trivial (fun hHeld => ?_); refine with_tabW impl_echelon.tab12 impl_echelon.bits12 (fun HT_ HW_ => ?_)
     generalize wr.drew = w35 at HO_0 BK624 HB hHeld ⊢
     refine tP0 0 49 (bm 13 1) ?_
     refine tP0 1 50 (bm 13 3) ?_
     refine tP0 2 51 (bm 13 7) ?_
     refine tP0 3 52 (bm 13 15) ?_
     refine pure_ (i := 4) (N := some 53) (v := undef) (a' := ?_) #[true, true, true, true, true, false, false, false, false, false, false, false, false] rfl rfl (any_of HT_.out (by kernel_rfl)) (fun _ _ _ h => h) (Or.inr ⟨by rfl, rfl⟩) ?_ ?_
     rotate_left
     ·simp only [Act.put, qSa, qSb, qSc, i64_w, i32_w]
      rfl
     refine pure_ (i := 5) (N := some 54) (v := undef) (a' := ?_) #[true, true, true, true, true, true, false, false, false, false, false, false, false] rfl rfl (any_of HT_.out (by kernel_rfl)) (fun _ _ _ h => h) (Or.inr ⟨by rfl, rfl⟩) ?_ ?_
     rotate_left
     ·simp only [Act.put, qSa, qSb, qSc, i64_w, i32_w]
      rfl
     refine pure_ (i := 6) (N := some 55) (v := undef) (a' := ?_) #[true, true, true, true, true, true, true, false, false, false, false, false, false] rfl rfl (any_of HT_.out (by kernel_rfl)) (fun _ _ _ h => h) (Or.inr ⟨by rfl, rfl⟩) ?_ ?_
     rotate_left
     ·simp only [Act.put, qSa, qSb, qSc, i64_w, i32_w]
      rfl
     refine pure_ (i := 7) (N := some 56) (v := undef) (a' := ?_) #[true, true, true, true, true, true, true, true, false, false, false, false, false] rfl rfl (any_of HT_.out (by kernel_rfl)) (fun _ _ _ h => h) (Or.inr ⟨by rfl, rfl⟩) ?_ ?_
     rotate_left
     ·simp only [Act.put, qSa, qSb, qSc, i64_w, i32_w]
      rfl
     refine pure_ (i := 8) (N := some 57) (v := undef) (a' := ?_) #[true, true, true, true, true, true, true, true, true, false, false, false, false] rfl rfl (any_of HT_.out (by kernel_rfl)) (fun _ _ _ h => h) (Or.inr ⟨by rfl, rfl⟩) ?_ ?_
     rotate_left
     ·simp only [Act.put, qSa, qSb, qSc, i64_w, i32_w]
      rfl
     refine pure_ (i := 9) (N := some 58) (v := undef) (a' := ?_) #[true, true, true, true, true, true, true, true, true, true, false, false, false] rfl rfl (any_of HT_.out (by kernel_rfl)) (fun _ _ _ h => h) (Or.inr ⟨by rfl, rfl⟩) ?_ ?_
     rotate_left
     ·simp only [Act.put, qSa, qSb, qSc, i64_w, i32_w]
      rfl
     refine pure_ (i := 10) (N := some 59) (v := undef) (a' := ?_) #[true, true, true, true, true, true, true, true, true, true, true, false, false] rfl rfl (any_of HT_.out (by kernel_rfl)) (fun _ _ _ h => h) (Or.inr ⟨by rfl, rfl⟩) ?_ ?_
     rotate_left
     ·simp only [Act.put, qSa, qSb, qSc, i64_w, i32_w]
      rfl
     refine pure_ (i := 11) (N := some 60) (v := undef) (a' := ?_) #[true, true, true, true, true, true, true, true, true, true, true, true, false] rfl rfl (any_of HT_.out (by kernel_rfl)) (fun _ _ _ h => h) (Or.inr ⟨by rfl, rfl⟩) ?_ ?_
     rotate_left
     ·simp only [Act.put, qSa, qSb, qSc, i64_w, i32_w]
      rfl
     refine tP0 12 61 (bm 13 8191) ?_
     refine done_ (done_of HT_.out (by kernel_rfl)) ?_
     try go_wp2
     (try simp only [← hl0_3])
     go_roundg k3
     case measure => have := HK1.out; have := HJ5.out; have := HK3.out; omega
     case rel => exact ⟨(x0_3), (wrap64 (x46_3 + 1)), tS, H', ⟨by have := HK1.out; have := HJ5.out; have := HK3.out; omega⟩, ⟨by (try simp only [hl0_3]); (with_reducible repeat (first | apply Kd.RqA | apply Kd.RqN | apply Kd.RqD)); exact HO_0.out⟩, ⟨by (try simp only [hl0_3]); (with_reducible repeat (first | refine kQN ?_ _ | refine kQD ?_ | refine kQA ?_ _)); exact BK624.out⟩, ⟨tB⟩⟩
    rw [if_neg c34] at H
    have c34b0 := beq_eq_false_iff_ne.mpr c34
    have c34b1 := bne_iff_ne.mpr c34
    (try (have c34b0z := c34b0; simp only [hl0_3] at c34b0z))
    (try (have c34b1z := c34b1; simp only [hl0_3] at c34b1z))
    by_cases c36 : 0 ≤ x46_3
    rotate_left
    ·rw [if_neg c36] at H
     exact absurd H (by simp)
    rw [if_pos c36] at H
    have c36b0 := decide_eq_true c36
    clear c36
    (try (have c36b0z := c36b0; simp only [hl0_3] at c36b0z))
    by_cases c37 : x46_3 < (x0_3.length : Int)
    rotate_left
    ·rw [if_neg c37] at H
     exact absurd H (by simp)
    rw [if_pos c37] at H
    have c37b0 := decide_eq_true c37
    clear c37
    (try (have c37b0z := c37b0; simp only [hl0_3] at c37b0z))
    by_cases c38 : 0 ≤ x625000_1
    rotate_left
    ·rw [if_neg c38] at H
     exact absurd H (by simp)
    rw [if_pos c38] at H
    have c38b0 := eq_true c38
    have c38b1 := decide_eq_true c38
    clear c38
    (try (have c38b0z := c38b0; simp only [hl0_3] at c38b0z))
    (try (have c38b1z := c38b1; simp only [hl0_3] at c38b1z))
    obtain ⟨ji39, hji39⟩ : ∃ j_ : Int, (shr .i64 (rd x0_3 x46_3) x625000_1) = j_ := ⟨_, rfl⟩
    first | rw [hji39] at H | simp only [hji39] at H | skip
    have hji39_ : ((rd x0_3 x46_3) / 2 ^ min x625000_1.toNat 64) = ji39 := hji39
    have hji39z : x625000_1 ≤ 64 → ((rd x0_3 x46_3) / 2 ^ x625000_1.toNat) = ji39 := shr_small hji39
    by_cases c40 : (Go.bits .and .i64 (ji39) 1) = 1
    rotate_left
    ·rw [if_neg c40] at H
     have c40b0 := beq_eq_false_iff_ne.mpr c40
     have c40b1 := bne_iff_ne.mpr c40
     (try (have c40b0z := c40b0; simp only [hl0_3] at c40b0z))
     (try (have c40b1z := c40b1; simp only [hl0_3] at c40b1z))
     replace H' := Aq.mk H
     clear H
     try go_wp2
     have n0_ := Aq.mk (Kd.RqD HO_0.out)
     have n1_ := Aq.mk (kQD BK624.out)
     have n2_ := Aq.mk (bQ1 HB.out)
     clear HO_0
     clear BK624
     clear HB
     have HO_0 := n0_
     have BK624 := n1_
     have HB := n2_
     clear n0_ n1_ n2_
     have p638 : 0 ≤ (x46_3 : Int) := of_decide_eq_true tA
     have q638 : x46_3 < (x0_3.length : Int) := of_decide_eq_true tA
     obtain ⟨ad638, e638, hx638_0⟩ := Kd.at_int (Kd.R_reads' HO_0.out).2.2 x46_3 p638 q638
     obtain rfl : (⟨go26, 0, none⟩ : Addr) = ad638 := (by injection e638)
     (first | simp only [add_plain] at hx638_0 | simp only [add_at] at hx638_0 | simp only [Addr.add, Nat.zero_add] at hx638_0 | skip)
     replace p638 := eq_true p638
     replace q638 := eq_true q638
     refine start_ (n := 13) (S := fun w' => w'.cell? ⟨gm624, 0, none⟩ = some (.int .i64 x625000_1) ∧ w'.cell? ⟨go26, (x46_3).toNat, none⟩ = some (.int .i64 (rd x0_3 x46_3))) (ds := []) #[false, false, false, false, false, false, false, false, false, false, false, false, false] (by kernel_rfl) rfl rfl ⟨(kQC BK624.out 0).trans rfl, hx638_0⟩ (fun hHeld => ?_); refine with_tabW impl_echelon.tab12 impl_echelon.bits12 (fun HT_ HW_ => ?_)
     generalize wr.drew = w47 at HO_0 BK624 HB hx638_0 hHeld ⊢
     refine tP0 0 49 (bm 13 1) ?_
     refine tP0 1 50 (bm 13 3) ?_
     refine tP0 2 51 (bm 13 7) ?_
     refine tP0 3 52 (bm 13 15) ?_
     refine tP0 4 53 (bm 13 31) ?_
     refine tP0 5 54 (bm 13 63) ?_
     refine tP0 6 55 (bm 13 127) ?_
     refine tT2 7 56 (bm 13 255) ?_
     refine tT2 8 57 (bm 13 511) ?_
     refine tP0 9 58 (bm 13 1023) ?_
     refine tP0 10 59 (bm 13 2047) ?_
     refine tP0 11 60 (bm 13 4095) ?_
     refine tP0 12 61 (bm 13 8191) ?_
     refine done_ (done_of HT_.out (by kernel_rfl)) ?_
     try go_wp2
     (try simp only [← hl0_3])
     go_roundg k3
     case measure => have := HK1.out; have := HJ5.out; have := HK3.out; omega
     case rel => exact ⟨(x0_3), (wrap64 (x46_3 + 1)), tS, H', ⟨by have := HK1.out; have := HJ5.out; have := HK3.out; omega⟩, ⟨by (try simp only [hl0_3]); (with_reducible repeat (first | apply Kd.RqA | apply Kd.RqN | apply Kd.RqD)); exact HO_0.out⟩, ⟨by (try simp only [hl0_3]); (with_reducible repeat (first | refine kQN ?_ _ | refine kQD ?_ | refine kQA ?_ _)); exact BK624.out⟩, ⟨tB⟩⟩
    rw [if_pos c40] at H
    have c40b0 := beq_iff_eq.mpr c40
    have c40b1 := bne_eq_false_iff_eq.mpr c40
    clear c40
    (try (have c40b0z := c40b0; simp only [hl0_3] at c40b0z))
    (try (have c40b1z := c40b1; simp only [hl0_3] at c40b1z))
    by_cases c41 : 0 ≤ x3_1
    rotate_left
    ·rw [if_neg c41] at H
     exact absurd H (by simp)
    rw [if_pos c41] at H
    have c41b0 := decide_eq_true c41
    clear c41
    (try (have c41b0z := c41b0; simp only [hl0_3] at c41b0z))
    by_cases c42 : x3_1 < (x0_3.length : Int)
    rotate_left
    ·rw [if_neg c42] at H
     exact absurd H (by simp)
    rw [if_pos c42] at H
    have c42b0 := decide_eq_true c42
    clear c42
    (try (have c42b0z := c42b0; simp only [hl0_3] at c42b0z))
    obtain ⟨y641, hy641⟩ : ∃ y_ : List Int, y_ = (x0_3.set (x46_3 : Int).toNat (Go.bits .xor .i64 (rd x0_3 x46_3) (rd x0_3 x3_1))) := ⟨_, rfl⟩
    replace H : (impl_echelon.l1 k3 y641 x3_1 (x0_1.length : Int) (wrap64 (x46_3 + 1)) x625000_1) = some r := by first | (rw [hy641]; with_reducible exact H) | (have H2_ := (Option.bind_some _ _).symm.trans H; rw [hy641]; with_reducible exact H2_) | (have H2_ := (Option.bind_some _ _).symm.trans H; with_reducible exact H2_) | with_reducible exact H | (rw [hy641]; exact H) | exact H
    have Ny641 := Aq.mk hy641
    clear hy641
    replace H' := Aq.mk H
    clear H
    try go_wp2
    have n0_ := Aq.mk (Kd.RqD HO_0.out)
    have n1_ := Aq.mk (kQD BK624.out)
    have n2_ := Aq.mk (bQ1 HB.out)
    clear HO_0
    clear BK624
    clear HB
    have HO_0 := n0_
    have BK624 := n1_
    have HB := n2_
    clear n0_ n1_ n2_
    have p638 : 0 ≤ (x46_3 : Int) := of_decide_eq_true tA
    have q638 : x46_3 < (x0_3.length : Int) := of_decide_eq_true tA
    obtain ⟨ad638, e638, hx638_0⟩ := Kd.at_int (Kd.R_reads' HO_0.out).2.2 x46_3 p638 q638
    obtain rfl : (⟨go26, 0, none⟩ : Addr) = ad638 := (by injection e638)
    (first | simp only [add_plain] at hx638_0 | simp only [add_at] at hx638_0 | simp only [Addr.add, Nat.zero_add] at hx638_0 | skip)
    replace p638 := eq_true p638
    replace q638 := eq_true q638
    refine start_ (n := 13) (S := fun w' => w'.cell? ⟨gm624, 0, none⟩ = some (.int .i64 x625000_1) ∧ w'.cell? ⟨go26, (x46_3).toNat, none⟩ = some (.int .i64 (rd x0_3 x46_3))) (ds := []) #[false, false, false, false, false, false, false, false, false, false, false, false, false] (by kernel_rfl) rfl rfl ⟨(kQC BK624.out 0).trans rfl, hx638_0⟩ (fun hHeld => ?_); refine with_tabW impl_echelon.tab12 impl_echelon.bits12 (fun HT_ HW_ => ?_)
    generalize wr.drew = w44 at HO_0 BK624 HB hx638_0 hHeld ⊢
    refine tP0 0 49 (bm 13 1) ?_
    refine tP0 1 50 (bm 13 3) ?_
    refine tP0 2 51 (bm 13 7) ?_
    refine tP0 3 52 (bm 13 15) ?_
    refine tP0 4 53 (bm 13 31) ?_
    refine tP0 5 54 (bm 13 63) ?_
    refine tP0 6 55 (bm 13 127) ?_
    refine tT2 7 56 (bm 13 255) ?_
    refine tT2 8 57 (bm 13 511) ?_
    refine tP0 9 58 (bm 13 1023) ?_
    refine tP0 10 59 (bm 13 2047) ?_
    refine tP0 11 60 (bm 13 4095) ?_
    refine tP0 12 61 (bm 13 8191) ?_
    refine done_ (done_of HT_.out (by kernel_rfl)) ?_
    try go_wp2
    have n0_ := Aq.mk (Kd.RqD HO_0.out)
    have n1_ := Aq.mk (kQD BK624.out)
    have n2_ := Aq.mk (bQ1 HB.out)
    clear HO_0
    clear BK624
    clear HB
    have HO_0 := n0_
    have BK624 := n1_
    have HB := n2_
    clear n0_ n1_ n2_
    have p639 : 0 ≤ (x46_3 : Int) := of_decide_eq_true tA
    have q639 : x46_3 < (x0_3.length : Int) := of_decide_eq_true tA
    obtain ⟨ad639, e639, hx639_0⟩ := Kd.at_int (Kd.R_reads' HO_0.out).2.2 x46_3 p639 q639
    obtain rfl : (⟨go26, 0, none⟩ : Addr) = ad639 := (by injection e639)
    (first | simp only [add_plain] at hx639_0 | simp only [add_at] at hx639_0 | simp only [Addr.add, Nat.zero_add] at hx639_0 | skip)
    replace p639 := eq_true p639
    replace q639 := eq_true q639
    have p640 : 0 ≤ (x3_1 : Int) := of_decide_eq_true tA
    have q640 : x3_1 < (x0_3.length : Int) := of_decide_eq_true tA
    obtain ⟨ad640, e640, hx640_0⟩ := Kd.at_int (Kd.R_reads' HO_0.out).2.2 x3_1 p640 q640
    obtain rfl : (⟨go26, 0, none⟩ : Addr) = ad640 := (by injection e640)
    (first | simp only [add_plain] at hx640_0 | simp only [add_at] at hx640_0 | simp only [Addr.add, Nat.zero_add] at hx640_0 | skip)
    replace p640 := eq_true p640
    replace q640 := eq_true q640
    have p43 : 0 ≤ (x46_3 : Int) := of_decide_eq_true tA
    have q43 : (x46_3 : Int) < ((x0_3.length : Int) : Int) := of_decide_eq_true tA
    obtain ⟨hx43_0, hf43_0⟩ := Kd.R_celln 0 HO_0.out (x46_3 : Int) p43 q43
    replace p43 := eq_true p43
    replace q43 := eq_true q43
    have HP46 := Kd.R_putn HO_0.out (x46_3 : Int) (Go.bits .xor .i64 (rd x0_3 x46_3) (rd x0_3 x3_1))
    rw [← Ny641.out] at HP46
    have HQ46 := Aq.mk HP46
    clear HP46
    refine start_ (n := 11) (S := fun w' => w'.cell? ⟨go26, (x46_3).toNat, none⟩ = some (.int .i64 (rd x0_3 x46_3)) ∧ w'.cell? ⟨go26, (x3_1).toNat, none⟩ = some (.int .i64 (rd x0_3 x3_1))) (ds := [10]) #[false, false, false, false, false, false, false, false, false, false, false] (by kernel_rfl) rfl rfl ⟨hx639_0, hx640_0⟩ (fun hHeld => ?_); refine with_tabW impl_echelon.tab13 impl_echelon.bits13 (fun HT_ HW_ => ?_)
    generalize w44.drew = w45 at HO_0 BK624 HB HQ46 hf43_0 hx43_0 hx639_0 hx640_0 hHeld ⊢
    refine tP0 0 62 (bm 11 1) ?_
    refine tP0 1 63 (bm 11 3) ?_
    refine tP0 2 64 (bm 11 7) ?_
    refine tP0 4 66 (bm 11 23) ?_
    refine tP0 5 67 (bm 11 55) ?_
    refine tP0 6 68 (bm 11 119) ?_
    refine tT2 3 65 (bm 11 127) ?_
    refine tT2 7 69 (bm 11 255) ?_
    refine tP0 8 70 (bm 11 511) ?_
    refine tP0 9 71 (bm 11 1023) ?_
    refine last_ (i := 10) (N := none) #[true, true, true, true, true, true, true, true, true, true, true] rfl rfl (one_of HT_.out (by kernel_rfl)) (by decide) (fun K hK => ?_)
    refine skip_ (w1 := ?_) (by rfl) rfl ?_ ?_
    rotate_left
    ·go_simp
     rfl
    refine hK.out _ _ ?_
    clear hK K
    refine done_ (done_of HT_.out (by kernel_rfl)) ?_
    try go_wp2
    (try simp only [← hl0_3])
    go_roundg k3
    case measure => have := HK1.out; have := HJ5.out; have := HK3.out; omega
    case rel => exact ⟨(y641), (wrap64 (x46_3 + 1)), tS, H', ⟨by have := HK1.out; have := HJ5.out; have := HK3.out; omega⟩, ⟨by (try simp only [hl0_3]); (with_reducible repeat (first | apply Kd.RqA | apply Kd.RqN | apply Kd.RqD)); exact HQ46.out⟩, ⟨by (try simp only [hl0_3]); (with_reducible repeat (first | refine kQN ?_ _ | refine kQD ?_ | refine kQA ?_ _)); refine kQR ?_ (by have h_ := Kd.R_ne HO_0.out BK624.out (by decide); intro e_; exact h_ (by rw [e_]; rfl)) _; (with_reducible repeat (first | refine kQN ?_ _ | refine kQD ?_ | refine kQA ?_ _)); exact BK624.out⟩, ⟨by repeat (first | (with_reducible first | exact HB.out | apply bQA | apply bQN | apply bQ1 | refine bQS ?_ GB26.out | refine bQS ?_ GE624.out) | exact HB.out)⟩⟩
end Go.Proofs.Ytbalkaphibnpcaa.P
