/- Functions of the program and what they tell, as the printing program wrote it. -/
import Derived.Test.YtbalkaphibnpcaaPx0
import Derived.Test.YtbalkaphibnpcaaPx7
import Derived.Test.YtbalkaphibnpcaaPx13
namespace Go.Proofs.Ytbalkaphibnpcaa.P
open Go.Shelf Go.RowKit Go.Proofs.YtbalkaphibnpcaaW.PrintWords Go.Proofs.YtbalkaphibnpcaaW.PrintLast Go.Proofs.YtbalkaphibnpcaaW.PrintMore
attribute [local go_sem] max2_int min2_int max_two min_two max_three min_three max_four min_four
set_option linter.unusedVariables false
set_option linter.unusedSimpArgs false
set_option maxHeartbeats 8000000
set_option maxRecDepth 100000
def impl_Field_inverse.f (k : Nat) (a0_0 : Int) (a0_1 : Int) (a1 : Int) : Option (Int) := (impl_Field_count.f a0_0 a0_1).bind fun t243 => ((impl_Field_power.f k a0_0 a0_1 a1 (wrap64 (t243 - 2))).bind fun t244 => (some t244))
theorem impl_Field_inverse.mono : ∀ a0 a1 a2 k, LeO (impl_Field_inverse.f k a0 a1 a2) (impl_Field_inverse.f (k + 1) a0 a1 a2) := by
 intro a0 a1 a2 k
 unfold impl_Field_inverse.f
 repeat' first
  | (with_reducible first | apply impl_Field_power.mono | exact LeO.refl _ | exact LeO.none _ | refine LeO.ite ?_ ?_ | refine LeO.bind ?_ (fun _ => ?_))
  | exact LeO.none _
  | refine LeO.ite ?_ ?_
  | refine LeO.bind ?_ (fun _ => ?_)
theorem impl_Field_inverse.calls (k : Nat) (a0_0 : Int) (a0_1 : Int) (a1 : Int) (r : Int) (w : World) (h : impl_Field_inverse.f k a0_0 a0_1 a1 = some r) :
 Calls Try.prog 76 #[.agg #[.int .i64 a0_0, .int .i64 a0_1], .int .i64 a1] w fun e w' => e = .returned (.int .i64 r) ∧ Below w.heap.size w w' := by
 have hu28 := Try.underlying28
 have HB := Aq.mk (Below.refl w.heap.size w)
 have H : ((impl_Field_count.f a0_0 a0_1).bind fun t243 => ((impl_Field_power.f k a0_0 a0_1 a1 (wrap64 (t243 - 2))).bind fun t244 => (some t244))) = some r := h
 clear h
 obtain ⟨t243, A3, H⟩ := qBd H
 obtain ⟨t244, A4, H⟩ := qBd H
 obtain rfl := Option.some.inj H
 go_enter Try.func76, Try.ntmps76
 try go_wp2_with (first | ((with_reducible refine gQd (N := 2) rfl ?_); refine xQe ?hg (N := 2) ?hd (cs := #[.int .i64 a0_0, .int .i64 a0_1]) (t := 28) ?hr ?_; (case hd => rfl); (case hg => rfl); (case hr => exact tH); intro gb242 hg w5 hbox hb; refine qM4 (bQT tB hb) hbox (tZ w hg) (tZ w hg) ?_; clear HB; intro HB BK242 GW242 GE242; clear hb hbox hg))
 have n0_ := Aq.mk (kQD BK242.out)
 have n1_ := Aq.mk (bQ1 HB.out)
 clear BK242
 clear HB
 have BK242 := n0_
 have HB := n1_
 clear n0_ n1_
 refine start_ (n := 7) (S := fun w' => w'.cell? ⟨gb242, 0, none⟩ = some (.int .i64 a0_0) ∧ w'.cell? ⟨gb242, 1, none⟩ = some (.int .i64 a0_1)) (ds := []) #[false, false, false, false, false, false, false] (by kernel_rfl) rfl rfl ⟨(kQC BK242.out 0).trans rfl, (kQC BK242.out 1).trans rfl⟩ (fun hHeld => ?_)
 generalize w5.drew = w6 at BK242 HB hHeld ⊢
 refine tP0k 1 6 (bm 7 2) ?_
 refine tT2k 0 5 (bm 7 3) ?_
 refine tT2k 2 7 (bm 7 7) ?_
 refine one_ (i := 3) (N := some 8) (bm 7 15) rfl rfl (by kernel_rfl) (by decide) (fun K hK => ?_)
 refine goes_ Try.func103 (by kernel_rfl) rfl #[.agg #[.int .i64 a0_0, .int .i64 a0_1]] (by rfl) rfl rfl tL ?_
 with_reducible refine (impl_Field_count.calls a0_0 a0_1 t243 _ A3.out).mono ?_
 rintro e w7 ⟨rfl, hb⟩
 refine ⟨_, rfl, ?_⟩
 have n0_ := Aq.mk (tQ BK242.out hb)
 have n1_ := Aq.mk (bQT tB hb)
 clear BK242
 clear HB
 have BK242 := n0_
 have HB := n1_
 clear n0_ n1_
 (try clear hb)
 (try clear hb2)
 (try clear hk)
 (try clear hi)
 refine hK.out _ _ ⟨(kQC BK242.out 0).trans rfl, (kQC BK242.out 1).trans rfl⟩ (fun hHeld => ?_)
 clear hK K
 refine tN 8 ?_
 refine tP0k 4 9 (bm 7 31) ?_
 refine one_ (i := 5) (N := some 10) (bm 7 63) rfl rfl (by kernel_rfl) (by decide) (fun K hK => ?_)
 refine goes_ Try.func104 (by kernel_rfl) rfl #[.agg #[.int .i64 a0_0, .int .i64 a0_1], .int .i64 a1, .int .i64 (wrap64 (t243 - 2))] (by rfl) rfl rfl tL ?_
 with_reducible refine (impl_Field_power.calls k a0_0 a0_1 a1 (wrap64 (t243 - 2)) t244 _ A4.out).mono ?_
 rintro e w8 ⟨rfl, hb⟩
 refine ⟨_, rfl, ?_⟩
 have n0_ := Aq.mk (tQ BK242.out hb)
 have n1_ := Aq.mk (bQT tB hb)
 clear BK242
 clear HB
 have BK242 := n0_
 have HB := n1_
 clear n0_ n1_
 (try clear hb)
 (try clear hb2)
 (try clear hk)
 (try clear hi)
 refine hK.out _ _ ⟨(kQC BK242.out 0).trans rfl, (kQC BK242.out 1).trans rfl⟩ (fun hHeld => ?_)
 clear hK K
 refine tN 10 ?_
 refine tP0k 6 4 (bm 7 127) ?_
 refine done_ (by kernel_rfl) ?_
 try go_wp2
 go_ret
 exact ⟨tE, tB⟩
def impl_Field_reduce_1.f (l0 : List Int) (a1_0 : Int) : Option (Bool) := if 0 ≤ a1_0 then (if a1_0 < (l0.length : Int) then (some ((rd l0 a1_0) != 0)) else (none)) else (none)
theorem impl_Field_reduce_1.calls (A0 : Option Addr) (c0 : Nat) (l0 : List Int) (g1_0 : Addr) (a1_0 : Int) (r : Bool) (w : World) (hr0 : Kd.C (Kd.int .i64) w A0 l0.length l0) (hc0 : l0.length ≤ c0) (hb1_0 : AtC w g1_0 [.int .i64 a1_0]) (h : impl_Field_reduce_1.f l0 a1_0 = some r) :
 Calls Try.prog 75 #[.slice A0 l0.length c0, .pointer (some g1_0)] w fun e w' => e = .returned (.bool r) ∧ Dq w w' := by
 have HR0 := Aq.mk hr0
 have HC0 := Aq.mk hc0
 clear hr0 hc0
 have BK48 := Aq.mk hb1_0
 clear hb1_0
 have H : (if 0 ≤ a1_0 then (if a1_0 < (l0.length : Int) then (some ((rd l0 a1_0) != 0)) else (none)) else (none)) = some r := h
 clear h
 by_cases c3 : 0 ≤ a1_0
 rotate_left
 ·rw [if_neg c3] at H
  exact absurd H (by simp)
 rw [if_pos c3] at H
 have c3b0 := decide_eq_true c3
 clear c3
 by_cases c4 : a1_0 < (l0.length : Int)
 rotate_left
 ·rw [if_neg c4] at H
  exact absurd H (by simp)
 rw [if_pos c4] at H
 have c4b0 := decide_eq_true c4
 clear c4
 obtain rfl := Option.some.inj H
 have hcz5_0 : w.cell? g1_0 = some (.int .i64 a1_0) := AtC.cell0 BK48.out _ rfl
 have p245 : 0 ≤ (a1_0 : Int) := of_decide_eq_true tA
 have q245 : a1_0 < (l0.length : Int) := of_decide_eq_true tA
 obtain ⟨ad245, e245, hx245_0⟩ := Kd.at_int HR0.out a1_0 p245 q245
 cases e245
 replace p245 := eq_true p245
 replace q245 := eq_true q245
 go_enter Try.func75, Try.ntmps75
 go_wp2
 go_ret
 exact ⟨tS, tD⟩
def slices_IndexFunc_int64_int64_AT_impl_Field_reduce_1.l0 : Nat → List (List Int) → Int → Int → Int → Option (Int)
  | 0, _, _, _, _ => none
  | k + 1, x0, x7, x8, x49000 => if x8 < x7 then (if 0 ≤ x8 then (if x8 < (x0.length : Int) then ((impl_Field_reduce_1.f (rd_L1 x0 x8) x49000).bind fun t247 => (if t247 = true then (some x8) else (slices_IndexFunc_int64_int64_AT_impl_Field_reduce_1.l0 k x0 x7 (wrap64 (x8 + 1)) x49000))) else (none)) else (none)) else (some (-1))
def slices_IndexFunc_int64_int64_AT_impl_Field_reduce_1.f (k : Nat) (l0 : List (List Int)) (a1_0 : Int) : Option (Int) := slices_IndexFunc_int64_int64_AT_impl_Field_reduce_1.l0 k l0 (l0.length : Int) 0 a1_0
theorem slices_IndexFunc_int64_int64_AT_impl_Field_reduce_1.mono_l : ∀ k, (∀ y0 y1 y2 y3, LeO (slices_IndexFunc_int64_int64_AT_impl_Field_reduce_1.l0 k y0 y1 y2 y3) (slices_IndexFunc_int64_int64_AT_impl_Field_reduce_1.l0 (k + 1) y0 y1 y2 y3))
 | 0 => fun _ _ _ _ r h => by simp [slices_IndexFunc_int64_int64_AT_impl_Field_reduce_1.l0] at h
 | k + 1 => by
  have ih0 := slices_IndexFunc_int64_int64_AT_impl_Field_reduce_1.mono_l k
  ·intro y0 y1 y2 y3
   unfold slices_IndexFunc_int64_int64_AT_impl_Field_reduce_1.l0
   repeat' first
   | (with_reducible first | apply ih0 | exact LeO.refl _ | exact LeO.none _ | refine LeO.ite ?_ ?_ | refine LeO.bind ?_ (fun _ => ?_))
   | exact LeO.none _
   | refine LeO.ite ?_ ?_
   | refine LeO.bind ?_ (fun _ => ?_)
theorem slices_IndexFunc_int64_int64_AT_impl_Field_reduce_1.mono : ∀ a0 a1 k, LeO (slices_IndexFunc_int64_int64_AT_impl_Field_reduce_1.f k a0 a1) (slices_IndexFunc_int64_int64_AT_impl_Field_reduce_1.f (k + 1) a0 a1) := by
 intro a0 a1 k
 have ih0 := slices_IndexFunc_int64_int64_AT_impl_Field_reduce_1.mono_l k
 unfold slices_IndexFunc_int64_int64_AT_impl_Field_reduce_1.f
 repeat' first
  | (with_reducible first | apply ih0 | exact LeO.refl _ | exact LeO.none _ | refine LeO.ite ?_ ?_ | refine LeO.bind ?_ (fun _ => ?_))
  | exact LeO.none _
  | refine LeO.ite ?_ ?_
  | refine LeO.bind ?_ (fun _ => ?_)
theorem slices_IndexFunc_int64_int64_AT_impl_Field_reduce_1.calls (k : Nat) (A0 : Option Addr) (c0 : Nat) (l0 : List (List Int)) (g1_0 : Addr) (a1_0 : Int) (r : Int) (w : World) (hr0 : Kd.C (Kd.slice 2 (Kd.int .i64)) w A0 l0.length l0) (hc0 : l0.length ≤ c0) (hb1_0 : AtC w g1_0 [.int .i64 a1_0]) (h : slices_IndexFunc_int64_int64_AT_impl_Field_reduce_1.f k l0 a1_0 = some r) :
 Calls Try.prog 74 #[.slice A0 l0.length c0, .func (.func 75) #[] #[.pointer (some g1_0)]] w fun e w' => e = .returned (.int .i64 r) ∧ Dq w w' := by
 have eg75 : ∀ (args_ : Array Value) (w_ : World), (callFunc 75 args_).run Try.prog w_ = .ok (.enter 75 args_) w_ := enters_of Try.func75 (by kernel_rfl) rfl
 have HR0 := Aq.mk hr0
 have HC0 := Aq.mk hc0
 clear hr0 hc0
 have BK48 := Aq.mk hb1_0
 clear hb1_0
 have H : (slices_IndexFunc_int64_int64_AT_impl_Field_reduce_1.l0 k l0 (l0.length : Int) 0 a1_0) = some r := h
 clear h
 replace H' := Aq.mk H
 clear H
 go_enter Try.func74, Try.ntmps74
 go_wp2
 go_loopg [8] k (fun kq v8 w' => ∃ (x8_1 : Int), v8 = .int .i64 x8_1 ∧ Aq (slices_IndexFunc_int64_int64_AT_impl_Field_reduce_1.l0 kq l0 (l0.length : Int) x8_1 a1_0 = some r) ∧ Aq (kq ≤ k) ∧ Dq w w')
 case atStart => exact ⟨(0), tS, H', ⟨Nat.le_refl _⟩, tD⟩
 clear H'
 obtain ⟨x8_1, rfl, HA, HK1, ⟨m1, rfl⟩⟩ := hrel
 cases gk with
 | zero => exact absurd HA.out (by simp [slices_IndexFunc_int64_int64_AT_impl_Field_reduce_1.l0])
 | succ k1 =>
  have H := HA.out
  clear HA
  simp only [slices_IndexFunc_int64_int64_AT_impl_Field_reduce_1.l0] at H
  by_cases c3 : x8_1 < (l0.length : Int)
  rotate_left
  ·rw [if_neg c3] at H
   have c3b0 := decide_eq_false c3
   clear c3
   obtain rfl := Option.some.inj H
   go_wp2
   go_ret
   exact ⟨tS, tD⟩
  rw [if_pos c3] at H
  have c3b0 := decide_eq_true c3
  clear c3
  by_cases c4 : 0 ≤ x8_1
  rotate_left
  ·rw [if_neg c4] at H
   exact absurd H (by simp)
  rw [if_pos c4] at H
  have c4b0 := decide_eq_true c4
  clear c4
  by_cases c5 : x8_1 < (l0.length : Int)
  rotate_left
  ·rw [if_neg c5] at H
   exact absurd H (by simp)
  rw [if_pos c5] at H
  have c5b0 := decide_eq_true c5
  clear c5
  obtain ⟨t247, A6, H⟩ := qBd H
  by_cases c7 : t247 = true
  ·subst c7
   rw [if_pos rfl] at H
   obtain rfl := Option.some.inj H
   have p246 : 0 ≤ (x8_1 : Int) := of_decide_eq_true tA
   have q246 : x8_1 < (l0.length : Int) := of_decide_eq_true tA
   obtain ⟨ad246, A246_0, c246_0, e246, hx246_0, hl246_0, hi246_0⟩ := at_L1 HR0.out x8_1 p246 q246
   cases e246
   have HR246_0 := Aq.mk hi246_0
   have HC246_0 := Aq.mk hl246_0
   clear hi246_0 hl246_0
   replace p246 := eq_true p246
   replace q246 := eq_true q246
   go_wp2_with (first | (go_at_fn 75; (with_reducible refine (impl_Field_reduce_1.calls _ _ (rd_L1 l0 x8_1) (g1_0 : Addr) a1_0 true _ ?s1 ?s2 ?s3 A6.out).mono ?_); (case s1 => exact tC HR246_0.out); (case s2 => exact HC246_0.out); (case s3 => repeat (first | exact BK48.out | (with_reducible refine AtC.alloc ?_ _) | (with_reducible refine AtC.drewN ?_ _) | (with_reducible refine AtC.drew ?_))); rintro e w' ⟨rfl, ⟨nd, rfl⟩⟩))
   go_ret
   exact ⟨tS, tD⟩
  replace c7 := Bool.eq_false_iff.mpr c7
  subst c7
  rw [if_neg (show ¬ (false = true) by decide)] at H
  replace H' := Aq.mk H
  clear H
  have p246 : 0 ≤ (x8_1 : Int) := of_decide_eq_true tA
  have q246 : x8_1 < (l0.length : Int) := of_decide_eq_true tA
  obtain ⟨ad246, A246_0, c246_0, e246, hx246_0, hl246_0, hi246_0⟩ := at_L1 HR0.out x8_1 p246 q246
  cases e246
  have HR246_0 := Aq.mk hi246_0
  have HC246_0 := Aq.mk hl246_0
  clear hi246_0 hl246_0
  replace p246 := eq_true p246
  replace q246 := eq_true q246
  go_wp2_with (first | (go_at_fn 75; (with_reducible refine (impl_Field_reduce_1.calls _ _ (rd_L1 l0 x8_1) (g1_0 : Addr) a1_0 false _ ?s1 ?s2 ?s3 A6.out).mono ?_); (case s1 => exact tC HR246_0.out); (case s2 => exact HC246_0.out); (case s3 => repeat (first | exact BK48.out | (with_reducible refine AtC.alloc ?_ _) | (with_reducible refine AtC.drewN ?_ _) | (with_reducible refine AtC.drew ?_))); rintro e w' ⟨rfl, ⟨nd, rfl⟩⟩))
  go_roundg k1
  case measure => have := HK1.out; omega
  case rel => exact ⟨(wrap64 (x8_1 + 1)), tS, H', ⟨by have := HK1.out; omega⟩, tD⟩
end Go.Proofs.Ytbalkaphibnpcaa.P
