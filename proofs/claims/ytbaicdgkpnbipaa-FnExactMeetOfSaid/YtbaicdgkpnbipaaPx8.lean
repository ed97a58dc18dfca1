/- Printed functions. -/
import Derived.Test.YtbaicdgkpnbipaaPx0
import Derived.Test.YtbaicdgkpnbipaaPx4
namespace Go.Proofs.Ytbaicdgkpnbipaa.P
open Go.Shelf Go.RowKit Go.Proofs.YtbaicdgkpnbipaaW.PrintWords Go.Proofs.YtbaicdgkpnbipaaW.PrintLast Go.Proofs.YtbaicdgkpnbipaaW.PrintMore
attribute [local go_sem] max2_int min2_int max_two min_two max_three min_three max_four min_four
set_option linter.unusedVariables false
set_option linter.unusedSimpArgs false
set_option maxHeartbeats 2000000 in
set_option maxRecDepth 100000 in
theorem grow_nil_int (n : Int) (w : World) (h0 : 0 ≤ n) (hb : n ≤ 17592186044415) :
 Calls Try.prog 112 #[.slice none 0 0, .int .i64 n] w fun e w' => ∃ v : Value, e = .returned v ∧ Kd.R (Kd.int .i64) 2 w' w.heap.size (fun _ => True) v [] ∧ Below w.heap.size w w' := by
 have hinfo : (Try.prog.info? 2).map (fun i => (i.zero, i.size, i.bytes)) = some (some (.int .i64 0), 1, 8) := by kernel_rfl
 have u22 : ∀ w, Sem.run Try.prog (underlying 22) w = .ok (TypeDesc.slice 2) w := run_underlying Try.underlying22
 by_cases hn : 0 < n
 ·have hd : decide (0 < n) = true := decide_eq_true hn
  have hng : ¬ n < 0 := by omega
  have HI := Aq.mk hinfo
  clear hinfo
  go_enter Try.func112, Try.ntmps112
  go_wp2_with (at_builtin; refine Kd.R_append_zeros (Kd.int .i64) (w0 := w) w.heap.size rfl (.tmp 20) (.tmp 21) 22 3 2 (.int .i64 0) 8 rfl Try.underlying22 Try.underlying3 HI.out rfl (by decide) (by omega) (.slice none 0 0) [] 0 (kx := .i64) n (fun _ => True) rfl rfl rfl (fun _ _ => trivial) (Kd.R_nil _ _ _ _ _) (by omega) (Below.refl _ _) (Nat.le_refl _) (by simp; omega) ?_)
  intro v1 w1 ho hbw hg hat
  have hl : (List.replicate n.toNat (0 : Int)).length = n.toNat := by simp
  obtain ⟨A1, c1, hv⟩ := Kd.qbw ho
  rw [hl] at hv
  subst hv
  have HO := Aq.mk ho
  have HB := Aq.mk hbw
  clear ho hbw hg hat hl
  have hlc : n.toNat ≤ c1 := by have := (Kd.qbi HO.out).2.1; simpa using this
  go_wp2
  go_ret
  refine ⟨_, rfl, ?_, HB.out⟩
  exact Kd.R_take (m := 0) HO.out (by omega)
 ·have hz : n = 0 := by omega
  subst hz
  clear hinfo hn
  go_enter Try.func112, Try.ntmps112
  go_wp2
  go_ret
  exact ⟨_, rfl, Kd.R_nil _ _ _ _ _, Below.refl _ _⟩
def qa7.f (l0 : List (List Int)) : Option (List Int) := if l0.flatten.length ≤ 17592186044415 then some l0.flatten else none
theorem flat_take_succ {α : Type} (l : List (List α)) (k : Nat) (h : k < l.length) : (l.take (k + 1)).flatten = (l.take k).flatten ++ l[k] := by
 rw [List.take_succ_eq_append_getElem h, List.flatten_append]; simp
theorem flat_take_le {α : Type} (l : List (List α)) (k : Nat) : (l.take k).flatten.length ≤ l.flatten.length := by
 have : l.flatten = (l.take k).flatten ++ (l.drop k).flatten := by rw [← List.flatten_append, List.take_append_drop]
 rw [this, List.length_append]; omega
set_option maxHeartbeats 4000000 in
set_option maxRecDepth 100000 in
theorem qa7.calls (A0 : Option Addr) (c0 : Nat) (l0 : List (List Int)) (r : List Int) (w : World) (hr0 : Kd.C (Kd.slice 2 (Kd.int .i64)) w A0 l0.length l0) (hc0 : l0.length ≤ c0) (h : qa7.f l0 = some r) :
 Calls Try.prog 108 #[.slice A0 l0.length c0] w fun e w' => ∃ v0_ : Value, e = .returned (v0_) ∧ Kd.R (Kd.int .i64) 2 w' w.heap.size (fun _ => True) v0_ r ∧ Below w.heap.size w w' := by
 have hinfo : (Try.prog.info? 2).map (fun i => (i.zero, i.size, i.bytes)) = some (some (.int .i64 0), 1, 8) := by kernel_rfl
 have HI := Aq.mk hinfo
 clear hinfo
 unfold qa7.f at h
 split at h
 case isFalse => cases h
 rename_i hbig
 obtain rfl := Option.some.inj h
 clear h
 have hn := hr0.2.1
 have HR := Aq.mk hr0
 have HG := Aq.mk hbig
 clear hr0 hbig hc0
 have elem : ∀ (W : World), Below w.heap.size w W → ∀ k (hk : k < l0.length), ∃ ad A c, A0 = some ad ∧ W.cell? (ad.add k) = some (.slice A l0[k].length c) ∧ l0[k].length ≤ c ∧ Kd.C (Kd.int .i64) W A l0[k].length l0[k] := by
  intro W hB k hk
  obtain ⟨ad, c, e, _, hK, hcell⟩ := Kd.C_get (Kd.qbt HR.out hB) [] (k : Int) (by omega) (by omega)
  obtain ⟨A, c', rfl, hl, hC⟩ := hK
  have eg : l0.getD (k : Int).toNat [] = l0[k] := by simp [List.getD_eq_getElem?_getD, hk]
  rw [eg] at hl hC hcell
  refine ⟨ad, A, c', e, ?_, hl, hC⟩
  have := hcell 0 _ rfl
  rw [show (Kd.slice 2 (Kd.int .i64)).sz = 1 from rfl, Nat.mul_one, Nat.add_zero, Int.toNat_natCast] at this
  exact this
 have HE := Aq.mk elem
 clear elem
 go_enter Try.func108, Try.ntmps108
 go_wp2_with fail
 go_loopg [3, 5, 11] l0.length (fun gg s3 _ s11 wr => ∃ kk : Nat, kk ≤ l0.length ∧ l0.length - kk ≤ gg ∧ s3 = .int .i64 ((l0.take kk).flatten.length : Nat) ∧ s11 = .int .i64 kk ∧ Aq (wr = w))
 case atStart => exact ⟨0, Nat.zero_le _, by omega, rfl, rfl, ⟨rfl⟩⟩
 case round =>
  obtain ⟨kk, hkk, hg, rfl, rfl, ⟨hw⟩⟩ := hrel
  subst hw
  by_cases hlt : kk < l0.length
  ·have hltz : (kk : Int) < (l0.length : Int) := by omega
   obtain ⟨ad, A, c, hA, hcell, hlc, _⟩ := HE.out _ (Below.refl _ _) kk hlt
   subst hA
   have b1 := flat_take_le l0 kk
   have b2 := flat_take_le l0 (kk + 1)
   have e2 := flat_take_succ l0 kk hlt
   have b3 : (l0.take kk).flatten.length + l0[kk].length ≤ 17592186044415 := by rw [e2, List.length_append] at b2; have := HG.out; omega
   have E := Aq.mk (show (((l0.take (kk + 1)).flatten.length : Nat) : Int) = ((l0.take kk).flatten.length : Int) + (l0[kk].length : Int) by rw [e2, List.length_append]; omega)
   clear e2 b1 b2
   generalize hm : (l0.take kk).flatten.length = m at b3 E
   generalize hq : l0[kk].length = q at b3 E hcell hlc
   have HM := Aq.mk hm
   clear hm hq
   go_wp2_with fail
   go_roundg (l0.length - (kk + 1))
   case measure => omega
   case rel => exact ⟨kk + 1, by omega, by omega, by rw [E.out], by go_num, ⟨rfl⟩⟩
  ·have hltz : ¬ (kk : Int) < (l0.length : Int) := by omega
   have : kk = l0.length := by omega
   subst this
   obtain ⟨wo, rfl⟩ : ∃ wo : World, wo = wr := ⟨_, rfl⟩
   have HX := Aq.mk (show l0.flatten.length ≤ 17592186044415 from HG.out)
   have hfull : (l0.take l0.length).flatten.length = l0.flatten.length := by rw [List.take_length]
   rw [hfull]
   have hb := HG.out
   have GN := grow_nil_int (l0.flatten.length : Int) wo (by omega) (by omega)
   have HT := Aq.mk (show l0.flatten.length ≤ 17592186044415 from hb)
   generalize l0.flatten.length = T at GN HT
   have GN' := Aq.mk GN
   clear GN hfull hb
   go_wp2_with fail
   refine GN'.out.mono ?_
   rintro e w1 ⟨v, rfl, ho, hb1⟩
   have HO := Aq.mk ho
   have HB := Aq.mk hb1
   clear ho hb1
   go_wp2_with fail
   go_loopg [6, 8, 27] l0.length (fun gg s6 _ s27 w2 => ∃ (kk : Nat), kk ≤ l0.length ∧ l0.length - kk ≤ gg ∧ s27 = .int .i64 kk ∧ Aq (Kd.R (Kd.int .i64) 2 w2 wo.heap.size (fun _ => True) s6 (l0.take kk).flatten) ∧ Aq (Below wo.heap.size wo w2))
   case atStart => exact ⟨0, Nat.zero_le _, by omega, rfl, HO, HB⟩
   case round =>
    clear HO HB
    obtain ⟨kk, hkk, hg, rfl, HO, HB⟩ := hrel
    by_cases hlt : kk < l0.length
    ·have hltz : (kk : Int) < (l0.length : Int) := by omega
     obtain ⟨ad, A, c, hA, hcell, hlc, hC⟩ := HE.out _ HB.out kk hlt
     subst hA
     have b2 := flat_take_le l0 (kk + 1)
     have e2 := flat_take_succ l0 kk hlt
     have b3 : ((l0.take kk).flatten.length + l0[kk].length) * 8 ≤ 140737488355328 := by rw [e2, List.length_append] at b2; have := HX.out; omega
     have E2 := Aq.mk e2
     have HC := Aq.mk hC
     clear e2 b2 hC
     generalize hq : l0[kk] = row at b3 E2 hcell hlc HC
     clear hq
     have B3 := Aq.mk b3
     clear b3
     go_wp2_with (at_builtin; refine Kd.R_append_rows (Kd.int .i64) (w0 := wo) wo.heap.size rfl (.tmp 31) (.tmp 32) 22 2 (.int .i64 0) 8 rfl Try.underlying22 HI.out rfl (by decide) (by omega) _ (l0.take kk).flatten row _ _ _ (fun _ => True) (fun _ => False) rfl rfl HO.out HC.out (fun _ _ h => h) (fun _ h => h.elim) (fun _ _ => trivial) HB.out HB.out.size B3.out ?_)
     intro v1 w3 ho hb hg hat
     rw [← E2.out] at ho
     have HO2 := Aq.mk ho
     have HB2 := Aq.mk hb
     clear ho hb hg hat
     go_wp2_with fail
     go_roundg (l0.length - (kk + 1))
     case measure => omega
     case rel => exact ⟨kk + 1, by omega, by omega, by go_num, HO2, HB2⟩
    ·have hltz : ¬ (kk : Int) < (l0.length : Int) := by omega
     have : kk = l0.length := by omega
     subst this
     have HF := Aq.mk (show Kd.R (Kd.int .i64) 2 wr wo.heap.size (fun _ => True) _ l0.flatten by have := HO.out; rwa [List.take_length] at this)
     clear HO
     go_wp2_with fail
     go_ret
     exact ⟨_, rfl, HF.out, HB.out⟩
def qay.f (k : Nat) (a0_0 : Int) (l0_1 : List Int) (a1_0 : Int) (l1_1 : List Int) : Option (Int × List Int) := (qa7.f (([l0_1, l1_1] : List (List Int)))).bind fun t452 => ((qaf.f k t452).bind fun t455 => (some (a0_0, t455)))
theorem qay.mono : ∀ a0 a1 a2 a3 k, LeO (qay.f k a0 a1 a2 a3) (qay.f (k + 1) a0 a1 a2 a3) := by
 intro a0 a1 a2 a3 k
 unfold qay.f
 repeat' first
  | (with_reducible first | exact qaf.mono _ _ | exact LeO.refl _ | exact LeO.none _ | refine LeO.ite ?_ ?_ | refine LeO.bind ?_ (fun _ => ?_))
  | exact LeO.none _
  | refine LeO.ite ?_ ?_
  | refine LeO.bind ?_ (fun _ => ?_)
def qay.T1 : Bool × List (List Nat × List Nat) := (true, [([], []), ([0], [0]), ([], []), ([2], [2]), ([], []), ([4], [4]), ([3, 5], [3, 5]), ([6], [6]), ([7, 7], [7]), ([1, 8], [1, 8]), ([9, 8, 0, 1, 2, 3, 4, 5, 6, 7, 8, 9], [9])])
def qay.B1 : List Nat := [0, 1, 0, 4, 0, 16, 60, 124, 252, 511, 1023]
theorem qay.tab1 : rtab .any (opsOf Try.f71 1) = qay.T1 := by kernel_rfl
theorem qay.bits1 : waitsOk qay.T1.2 qay.B1 = true := by kernel_rfl
set_option maxHeartbeats 8000000 in
set_option maxRecDepth 100000 in
theorem qay.calls (k : Nat) (a0_0 : Int) (P0_1_ : Nat → Prop) (A0_1 : Option Addr) (c0_1 : Nat) (l0_1 : List Int) (a1_0 : Int) (P1_1_ : Nat → Prop) (A1_1 : Option Addr) (c1_1 : Nat) (l1_1 : List Int) (r1 : Int) (r2 : List Int) (w : World) (hs0_1 : Kd.V (Kd.int .i64) 2 w w.heap.size (fun k_ => P0_1_ k_) (.slice A0_1 l0_1.length c0_1) l0_1) (hs1_1 : Kd.V (Kd.int .i64) 2 w w.heap.size (fun k_ => P1_1_ k_) (.slice A1_1 l1_1.length c1_1) l1_1) (h : qay.f k a0_0 l0_1 a1_0 l1_1 = some (r1, r2)) :
 Calls Try.prog 71 #[.agg #[.int .i64 a0_0, .slice A0_1 l0_1.length c0_1], .agg #[.int .i64 a1_0, .slice A1_1 l1_1.length c1_1]] w fun e w' => ∃ v1_ : Value, e = .returned (.agg #[.int .i64 r1, v1_]) ∧ Kd.R (Kd.int .i64) 2 w' w.heap.size (fun k_ => (w.heap.size ≤ k_)) v1_ r2 ∧ Below w.heap.size w w' := by
 have hu26 := Try.underlying26
 have HO0_1 := Aq.mk (show Kd.V (Kd.int .i64) 2 w w.heap.size (fun k_ => ((P0_1_ k_ ∨ P1_1_ k_) ∨ w.heap.size ≤ k_)) (.slice A0_1 l0_1.length c0_1) l0_1 from Kd.V_mono hs0_1 (fun k_ hk => .inl (.inl hk)))
 have HO1_1 := Aq.mk (show Kd.V (Kd.int .i64) 2 w w.heap.size (fun k_ => ((P0_1_ k_ ∨ P1_1_ k_) ∨ w.heap.size ≤ k_)) (.slice A1_1 l1_1.length c1_1) l1_1 from Kd.V_mono hs1_1 (fun k_ hk => .inl (.inr hk)))
 have HB := Aq.mk (Below.refl w.heap.size w)
 have H : ((qa7.f (([l0_1, l1_1] : List (List Int)))).bind fun t452 => ((qaf.f k t452).bind fun t455 => (some (a0_0, t455)))) = some (r1, r2) := h
 clear h
 obtain ⟨y449, hy449⟩ : ∃ y_ : List (List Int), y_ = (([l0_1, l1_1] : List (List Int))) := ⟨_, rfl⟩
 replace H : ((qa7.f y449).bind fun t452 => ((qaf.f k t452).bind fun t455 => (some (a0_0, t455)))) = some (r1, r2) := by first | (rw [hy449]; with_reducible exact H) | (have H2_ := (Option.bind_some _ _).symm.trans H; rw [hy449]; with_reducible exact H2_) | (have H2_ := (Option.bind_some _ _).symm.trans H; with_reducible exact H2_) | with_reducible exact H | (rw [hy449]; exact H) | exact H
 have Ny449 := Aq.mk hy449
 clear hy449
 replace H := Option.bind_eq_some_iff.mp H
 obtain ⟨t452, A30, H⟩ := H
 replace H : ((qaf.f k t452).bind fun t455 => (some (a0_0, t455))) = some (r1, r2) := H
 have A3 := Aq.mk A30
 clear A30
 replace H := Option.bind_eq_some_iff.mp H
 obtain ⟨t455, A40, H⟩ := H
 replace H : (some (a0_0, t455)) = some (r1, r2) := H
 have A4 := Aq.mk A40
 clear A40
 simp only [Option.some.injEq, Prod.mk.injEq] at H
 obtain ⟨rfl, rfl⟩ := H
 go_enter Try.func71, Try.ntmps71
 try go_wp2_with (first | ((with_reducible refine gQd (N := 2) rfl ?_); refine xQe ?hg (N := 2) ?hd (cs := #[.int .i64 a0_0, .slice A0_1 l0_1.length c0_1]) (t := 26) ?hr ?_; (case hd => rfl); (case hg => rfl); (case hr => first | (go_simp; done) | (go_simp; rfl)); intro gb446 hg w5 hbox hb; replace HO0_1 := Aq.mk (Kd.V_below (Kd.V_elderB (by (with_reducible repeat (first | apply Kd.V_alloc | apply Kd.V_drewN | apply Kd.V_drew)); exact HO0_1.out) gb446 (Nat.le_of_eq hg.symm)) hb); replace HO1_1 := Aq.mk (Kd.V_below (Kd.V_elderB (by (with_reducible repeat (first | apply Kd.V_alloc | apply Kd.V_drewN | apply Kd.V_drew)); exact HO1_1.out) gb446 (Nat.le_of_eq hg.symm)) hb); have BK446 := Aq.mk (hbox); have GW446 := Aq.mk ((by rw [hg]; exact (bQZ (by repeat (with_reducible first | exact HB.out | apply bQA | apply bQN | apply bQ1))) : w.heap.size ≤ gb446)); have GE446 := Aq.mk ((by rw [hg]; exact (bQZ (by repeat (with_reducible first | exact HB.out | apply bQA | apply bQN | apply bQ1))) : w.heap.size ≤ gb446)); replace HB := Aq.mk (bQT (by repeat (with_reducible first | exact HB.out | apply bQA | apply bQN | apply bQ1)) hb); clear hb hbox hg) | ((with_reducible refine gQd (N := 3) rfl ?_); refine xQe ?hg (N := 3) ?hd (cs := #[.int .i64 a1_0, .slice A1_1 l1_1.length c1_1]) (t := 26) ?hr ?_; (case hd => rfl); (case hg => rfl); (case hr => first | (go_simp; done) | (go_simp; rfl)); intro gb447 hg w6 hbox hb; replace HO0_1 := Aq.mk (Kd.V_below (Kd.V_elderB (by (with_reducible repeat (first | apply Kd.V_alloc | apply Kd.V_drewN | apply Kd.V_drew)); exact HO0_1.out) gb447 (Nat.le_of_eq hg.symm)) hb); replace HO1_1 := Aq.mk (Kd.V_below (Kd.V_elderB (by (with_reducible repeat (first | apply Kd.V_alloc | apply Kd.V_drewN | apply Kd.V_drew)); exact HO1_1.out) gb447 (Nat.le_of_eq hg.symm)) hb); have BK447 := Aq.mk (hbox); have GW447 := Aq.mk ((by rw [hg]; exact (bQZ (by repeat (with_reducible first | exact HB.out | apply bQA | apply bQN | apply bQ1 | refine bQS ?_ GE446.out))) : w.heap.size ≤ gb447)); have GE447 := Aq.mk ((by rw [hg]; exact (bQZ (by repeat (with_reducible first | exact HB.out | apply bQA | apply bQN | apply bQ1 | refine bQS ?_ GE446.out))) : w.heap.size ≤ gb447)); replace HB := Aq.mk (bQT (by repeat (with_reducible first | exact HB.out | apply bQA | apply bQN | apply bQ1 | refine bQS ?_ GE446.out)) hb); have NB446_447 := Aq.mk ((by rw [hg]; exact Nat.ne_of_lt (qbo (g := gb446) (o := .cells #[.int .i64 a0_0, .slice A0_1 l0_1.length c0_1] 26 (0, 0)) (by (with_reducible repeat (first | refine kQN ?_ _ | refine kQD ?_ | refine kQA ?_ _)); exact BK446.out)) : gb446 ≠ gb447)); have NB447_446 := Aq.mk ((by rw [hg]; exact Nat.ne_of_gt (qbo (g := gb446) (o := .cells #[.int .i64 a0_0, .slice A0_1 l0_1.length c0_1] 26 (0, 0)) (by (with_reducible repeat (first | refine kQN ?_ _ | refine kQD ?_ | refine kQA ?_ _)); exact BK446.out)) : gb447 ≠ gb446)); replace BK446 := Aq.mk (kQB (g := gb446) (o := .cells #[.int .i64 a0_0, .slice A0_1 l0_1.length c0_1] 26 (0, 0)) (by (with_reducible repeat (first | refine kQN ?_ _ | refine kQD ?_ | refine kQA ?_ _)); exact BK446.out) hb); clear hb hbox hg) | ((with_reducible refine gQd (N := 4) rfl ?_); refine xQe ?hg (N := 4) ?hd (cs := #[.int .i64 0, .slice none 0 0]) (t := 26) ?hr ?_; (case hd => rfl); (case hg => rfl); (case hr => first | (go_simp; done) | (go_simp; rfl)); intro gb448 hg w7 hbox hb; replace HO0_1 := Aq.mk (Kd.V_below (Kd.V_elderB (by (with_reducible repeat (first | apply Kd.V_alloc | apply Kd.V_drewN | apply Kd.V_drew)); exact HO0_1.out) gb448 (Nat.le_of_eq hg.symm)) hb); replace HO1_1 := Aq.mk (Kd.V_below (Kd.V_elderB (by (with_reducible repeat (first | apply Kd.V_alloc | apply Kd.V_drewN | apply Kd.V_drew)); exact HO1_1.out) gb448 (Nat.le_of_eq hg.symm)) hb); have BK448 := Aq.mk (hbox); have GW448 := Aq.mk ((by rw [hg]; exact (bQZ (by repeat (with_reducible first | exact HB.out | apply bQA | apply bQN | apply bQ1 | refine bQS ?_ GE446.out | refine bQS ?_ GE447.out))) : w.heap.size ≤ gb448)); have GE448 := Aq.mk ((by rw [hg]; exact (bQZ (by repeat (with_reducible first | exact HB.out | apply bQA | apply bQN | apply bQ1 | refine bQS ?_ GE446.out | refine bQS ?_ GE447.out))) : w.heap.size ≤ gb448)); replace HB := Aq.mk (bQT (by repeat (with_reducible first | exact HB.out | apply bQA | apply bQN | apply bQ1 | refine bQS ?_ GE446.out | refine bQS ?_ GE447.out)) hb); have NB446_448 := Aq.mk ((by rw [hg]; exact Nat.ne_of_lt (qbo (g := gb446) (o := .cells #[.int .i64 a0_0, .slice A0_1 l0_1.length c0_1] 26 (0, 0)) (by (with_reducible repeat (first | refine kQN ?_ _ | refine kQD ?_ | refine kQA ?_ _)); exact BK446.out)) : gb446 ≠ gb448)); have NB448_446 := Aq.mk ((by rw [hg]; exact Nat.ne_of_gt (qbo (g := gb446) (o := .cells #[.int .i64 a0_0, .slice A0_1 l0_1.length c0_1] 26 (0, 0)) (by (with_reducible repeat (first | refine kQN ?_ _ | refine kQD ?_ | refine kQA ?_ _)); exact BK446.out)) : gb448 ≠ gb446)); replace BK446 := Aq.mk (kQB (g := gb446) (o := .cells #[.int .i64 a0_0, .slice A0_1 l0_1.length c0_1] 26 (0, 0)) (by (with_reducible repeat (first | refine kQN ?_ _ | refine kQD ?_ | refine kQA ?_ _)); exact BK446.out) hb); have NB447_448 := Aq.mk ((by rw [hg]; exact Nat.ne_of_lt (qbo (g := gb447) (o := .cells #[.int .i64 a1_0, .slice A1_1 l1_1.length c1_1] 26 (0, 0)) (by (with_reducible repeat (first | refine kQN ?_ _ | refine kQD ?_ | refine kQA ?_ _)); exact BK447.out)) : gb447 ≠ gb448)); have NB448_447 := Aq.mk ((by rw [hg]; exact Nat.ne_of_gt (qbo (g := gb447) (o := .cells #[.int .i64 a1_0, .slice A1_1 l1_1.length c1_1] 26 (0, 0)) (by (with_reducible repeat (first | refine kQN ?_ _ | refine kQD ?_ | refine kQA ?_ _)); exact BK447.out)) : gb448 ≠ gb447)); replace BK447 := Aq.mk (kQB (g := gb447) (o := .cells #[.int .i64 a1_0, .slice A1_1 l1_1.length c1_1] 26 (0, 0)) (by (with_reducible repeat (first | refine kQN ?_ _ | refine kQD ?_ | refine kQA ?_ _)); exact BK447.out) hb); clear hb hbox hg))
 replace HO0_1 := Aq.mk (Kd.V_drew HO0_1.out)
 replace HO1_1 := Aq.mk (Kd.V_drew HO1_1.out)
 replace BK446 := Aq.mk (kQD BK446.out)
 replace BK447 := Aq.mk (kQD BK447.out)
 replace BK448 := Aq.mk (kQD BK448.out)
 replace HB := Aq.mk (bQ1 HB.out)
 refine start_ (n := 11) (S := fun w' => w'.cell? ⟨gb446, 0, none⟩ = some (.int .i64 a0_0) ∧ w'.cell? ⟨gb446, 1, none⟩ = some (.slice A0_1 l0_1.length c0_1) ∧ w'.cell? ⟨gb447, 0, none⟩ = some (.int .i64 a1_0) ∧ w'.cell? ⟨gb447, 1, none⟩ = some (.slice A1_1 l1_1.length c1_1)) (ds := []) #[false, false, false, false, false, false, false, false, false, false, false] (by kernel_rfl) rfl rfl ⟨(kQC BK446.out 0).trans rfl, (kQC BK446.out 1).trans rfl, (kQC BK447.out 0).trans rfl, (kQC BK447.out 1).trans rfl⟩ (fun hHeld => ?_); refine with_tabW qay.tab1 qay.bits1 (fun HT_ HW_ => ?_)
 generalize w7.drew = w8 at HO0_1 HO1_1 BK446 BK447 BK448 HB hHeld ⊢
 refine qbv (i := 0) (N := some 5) (v := ?_) (a' := ?_) #[true, false, false, false, false, false, false, false, false, false, false] rfl rfl (qbp HT_.out (by kernel_rfl)) (fun _ _ _ h => h) (Or.inl ⟨by rfl, ?_⟩) ?_ ?_
 rotate_left
 ·intro w'
  go_simp
  with_reducible rfl
 rotate_left
 ·simp only [Act.put, qSa, qSb, qSc, qbl, qbn]
  rfl
 refine qbv (i := 2) (N := some 7) (v := ?_) (a' := ?_) #[true, false, true, false, false, false, false, false, false, false, false] rfl rfl (qbp HT_.out (by kernel_rfl)) (fun _ _ _ h => h) (Or.inl ⟨by rfl, ?_⟩) ?_ ?_
 rotate_left
 ·intro w'
  go_simp
  with_reducible rfl
 rotate_left
 ·simp only [Act.put, qSa, qSb, qSc, qbl, qbn]
  rfl
 refine qbv (i := 4) (N := some 9) (v := ?_) (a' := ?_) #[true, false, true, false, true, false, false, false, false, false, false] rfl rfl (qbp HT_.out (by kernel_rfl)) (fun _ _ _ h => h) (Or.inl ⟨by rfl, ?_⟩) ?_ ?_
 rotate_left
 ·intro w'
  go_simp
  with_reducible rfl
 rotate_left
 ·simp only [Act.put, qSa, qSb, qSc, qbl, qbn]
  rfl
 refine take_ (i := 1) (N := some 6) (v := ?_) (a' := ?_) #[true, true, true, false, true, false, false, false, false, false, false] rfl rfl (qb1 HT_.out HW_.out (by kernel_rfl)) (fun _ _ _ h => h) (Or.inl ⟨by rfl, ?_⟩) hHeld ?_ ?_
 rotate_left
 ·rintro w' ⟨s0, s1, s2, s3⟩
  go_simp
  with_reducible rfl
 rotate_left
 ·simp only [Act.put, qSa, qSb, qSc, qbl, qbn]
  rfl
 refine take_ (i := 3) (N := some 8) (v := ?_) (a' := ?_) #[true, true, true, true, true, false, false, false, false, false, false] rfl rfl (qb1 HT_.out HW_.out (by kernel_rfl)) (fun _ _ _ h => h) (Or.inl ⟨by rfl, ?_⟩) hHeld ?_ ?_
 rotate_left
 ·rintro w' ⟨s0, s1, s2, s3⟩
  go_simp
  with_reducible rfl
 rotate_left
 ·simp only [Act.put, qSa, qSb, qSc, qbl, qbn]
  rfl
 refine take_ (i := 5) (N := some 10) (v := ?_) (a' := ?_) #[true, true, true, true, true, true, false, false, false, false, false] rfl rfl (qb1 HT_.out HW_.out (by kernel_rfl)) (fun _ _ _ h => h) (Or.inl ⟨by rfl, ?_⟩) hHeld ?_ ?_
 rotate_left
 ·rintro w' ⟨s0, s1, s2, s3⟩
  go_simp
  with_reducible rfl
 rotate_left
 ·simp only [Act.put, qSa, qSb, qSc, qbl, qbn]
  rfl
 refine one_ (i := 6) (N := some 11) #[true, true, true, true, true, true, true, false, false, false, false] rfl rfl (qb2 HT_.out (by kernel_rfl)) (by decide) (fun K hK => ?_)
 refine Kd.N_lit_step (Kd.slice 2 (Kd.int .i64)) _ 22 ?hg (N' := 11) ?hd (xs := ([l0_1, l1_1] : List (List Int))) (inner := [.slice A0_1 l0_1.length c0_1, .slice A1_1 l1_1.length c1_1]) (ok := (fun k_ => ((P0_1_ k_ ∨ P1_1_ k_) ∨ w.heap.size ≤ k_) ∧ k_ ≠ gb446 ∧ k_ ≠ gb447 ∧ k_ ≠ gb448)) (okp := (fun k_ => ((P0_1_ k_ ∨ P1_1_ k_) ∨ w.heap.size ≤ k_) ∧ k_ ≠ gb446 ∧ k_ ≠ gb447 ∧ k_ ≠ gb448)) ?hr ?hp (fun _ hk => hk) ((show ∀ k_, w8.heap.size ≤ k_ → (fun k_ => ((P0_1_ k_ ∨ P1_1_ k_) ∨ w.heap.size ≤ k_) ∧ k_ ≠ gb446 ∧ k_ ≠ gb447 ∧ k_ ≠ gb448) k_ from fun k_ hk => ⟨(.inr (Nat.le_trans (bQZ (by repeat (with_reducible first | exact HB.out | apply bQA | apply bQN | apply bQ1 | refine bQS ?_ GE446.out | refine bQS ?_ GE447.out | refine bQS ?_ GE448.out))) hk)), Kd.freshB (g := gb446) (o := .cells #[.int .i64 a0_0, .slice A0_1 l0_1.length c0_1] 26 (0, 0)) (by (with_reducible repeat (first | refine kQN ?_ _ | refine kQD ?_ | refine kQA ?_ _)); exact BK446.out) k_ hk, Kd.freshB (g := gb447) (o := .cells #[.int .i64 a1_0, .slice A1_1 l1_1.length c1_1] 26 (0, 0)) (by (with_reducible repeat (first | refine kQN ?_ _ | refine kQD ?_ | refine kQA ?_ _)); exact BK447.out) k_ hk, Kd.freshB (g := gb448) (o := .cells #[.int .i64 0, .slice none 0 0] 26 (0, 0)) (by (with_reducible repeat (first | refine kQN ?_ _ | refine kQD ?_ | refine kQA ?_ _)); exact BK448.out) k_ hk⟩) _ (Nat.le_refl _)) (Below.refl _ _) (Nat.le_refl _) (by simp) ?_; (case hd => rfl); (case hg => rfl); (case hr => first | (go_simp; done) | (go_simp; rfl)); (case hp => exact (Reps.one (show Kd.FK (Kd.slice 2 (Kd.int .i64)) _ _ l0_1 [.slice A0_1 l0_1.length c0_1] from (Kd.FK_slice_mk (Kd.V_reads' (Kd.V_mono (ok' := (fun k_ => ((P0_1_ k_ ∨ P1_1_ k_) ∨ w.heap.size ≤ k_) ∧ k_ ≠ gb446 ∧ k_ ≠ gb447 ∧ k_ ≠ gb448)) (HO0_1.out) (fun k_ hk => ⟨hk.1.1.1, ⟨hk.1.1.2, ⟨hk.1.2, hk.2⟩⟩⟩))).2.1 (Kd.V_F (Kd.V_mono (ok' := (fun k_ => ((P0_1_ k_ ∨ P1_1_ k_) ∨ w.heap.size ≤ k_) ∧ k_ ≠ gb446 ∧ k_ ≠ gb447 ∧ k_ ≠ gb448)) (HO0_1.out) (fun k_ hk => ⟨hk.1.1.1, ⟨hk.1.1.2, ⟨hk.1.2, hk.2⟩⟩⟩))))) (Reps.one (show Kd.FK (Kd.slice 2 (Kd.int .i64)) _ _ l1_1 [.slice A1_1 l1_1.length c1_1] from (Kd.FK_slice_mk (Kd.V_reads' (Kd.V_mono (ok' := (fun k_ => ((P0_1_ k_ ∨ P1_1_ k_) ∨ w.heap.size ≤ k_) ∧ k_ ≠ gb446 ∧ k_ ≠ gb447 ∧ k_ ≠ gb448)) (HO1_1.out) (fun k_ hk => ⟨hk.1.1.1, ⟨hk.1.1.2, ⟨hk.1.2, hk.2⟩⟩⟩))).2.1 (Kd.V_F (Kd.V_mono (ok' := (fun k_ => ((P0_1_ k_ ∨ P1_1_ k_) ∨ w.heap.size ≤ k_) ∧ k_ ≠ gb446 ∧ k_ ≠ gb447 ∧ k_ ≠ gb448)) (HO1_1.out) (fun k_ hk => ⟨hk.1.1.1, ⟨hk.1.1.2, ⟨hk.1.2, hk.2⟩⟩⟩))))) (Reps.none _ _))))
 intro v450 w9 ho10 hb hg_ hnew_
 clear hg_ hnew_
 (first | rw [← Ny449.out] at ho10 | (simp only [Int.reduceToNat] at ho10; rw [← Ny449.out] at ho10))
 replace HO0_1 := Aq.mk (Kd.V_elder' (by (with_reducible repeat (first | apply Kd.V_alloc | apply Kd.V_drewN | apply Kd.V_drew)); exact HO0_1.out) (Kd.N_base ho10) hb)
 replace HO1_1 := Aq.mk (Kd.V_elder' (by (with_reducible repeat (first | apply Kd.V_alloc | apply Kd.V_drewN | apply Kd.V_drew)); exact HO1_1.out) (Kd.N_base ho10) hb)
 have HO451 := Aq.mk (Kd.N_lower ho10 (bQZ (by repeat (with_reducible first | exact HB.out | apply bQA | apply bQN | apply bQ1 | refine bQS ?_ GE446.out | refine bQS ?_ GE447.out | refine bQS ?_ GE448.out))))
 replace BK446 := Aq.mk (kQB (by (with_reducible repeat (first | refine kQN ?_ _ | refine kQD ?_ | refine kQA ?_ _)); exact BK446.out) hb)
 replace BK447 := Aq.mk (kQB (by (with_reducible repeat (first | refine kQN ?_ _ | refine kQD ?_ | refine kQA ?_ _)); exact BK447.out) hb)
 replace BK448 := Aq.mk (kQB (by (with_reducible repeat (first | refine kQN ?_ _ | refine kQD ?_ | refine kQA ?_ _)); exact BK448.out) hb)
 replace HB := Aq.mk (bQT (by repeat (with_reducible first | exact HB.out | apply bQA | apply bQN | apply bQ1 | refine bQS ?_ GE446.out | refine bQS ?_ GE447.out | refine bQS ?_ GE448.out)) hb)
 clear hb ho10
 obtain ⟨Ao11, co11, eo11⟩ := Kd.N_slice HO451.out
 (first | subst eo11 | (injection eo11 with f1_ f2_ f3_; have f4_ := f1_.symm; have f5_ := f3_.symm; clear f1_ f2_ f3_; subst f4_; subst f5_))
 refine hK.out _ _ ⟨(kQC BK446.out 0).trans rfl, (kQC BK446.out 1).trans rfl, (kQC BK447.out 0).trans rfl, (kQC BK447.out 1).trans rfl⟩ (fun hHeld => ?_)
 clear hK K
 refine qb0 (a' := ?_) ?_ ?_
 rotate_left
 ·show Act.put _ (some 11) _ = _
  simp only [Act.put, qSa, qSb, qSc, qbl, qbn]
  rfl
 refine one_ (i := 7) (N := some 12) #[true, true, true, true, true, true, true, true, false, false, false] rfl rfl (qb2 HT_.out (by kernel_rfl)) (by decide) (fun K hK => ?_)
 refine goes_ Try.func108 (by kernel_rfl) rfl #[.slice Ao11 y449.length co11] (by rfl) rfl rfl (by (try simp only [List.map_toArray, List.map_cons, List.map_nil]); first | done | rfl | (simp only [List.length_drop, List.length_take]; rfl)) ?_
 with_reducible refine (qa7.calls _ _ y449 t452 _ ?side1 ?side2 A3.out).mono ?_
 (case side1 => repeat (first | exact (Kd.N_reads' HO451.out).2.2 | (with_reducible refine Kd.CqA ?_ _) | (with_reducible refine Kd.CqN ?_ _) | (with_reducible refine Kd.CqD ?_)))
 (case side2 => exact (Kd.N_reads' HO451.out).2.1)
 rintro e w12 ⟨v453, rfl, ho0, hb⟩
 refine ⟨_, rfl, ?_⟩
 replace HO0_1 := Aq.mk (Kd.V_elder' (by (with_reducible repeat (first | apply Kd.V_alloc | apply Kd.V_drewN | apply Kd.V_drew)); exact HO0_1.out) (Kd.qbr ho0) hb)
 replace HO1_1 := Aq.mk (Kd.V_elder' (by (with_reducible repeat (first | apply Kd.V_alloc | apply Kd.V_drewN | apply Kd.V_drew)); exact HO1_1.out) (Kd.qbr ho0) hb)
 replace HO451 := Aq.mk (Kd.N_elder' (by (with_reducible repeat (first | apply Kd.N_alloc | apply Kd.N_drewN | apply Kd.N_drew)); exact HO451.out) (Kd.qbr ho0) hb)
 have HO454 := Aq.mk (Kd.qbx (Kd.R_newM (M := fun k_ => (w.heap.size ≤ k_)) ho0 (bQZ (by repeat (with_reducible first | exact HB.out | apply bQA | apply bQN | apply bQ1 | refine bQS ?_ GE446.out | refine bQS ?_ GE447.out | refine bQS ?_ GE448.out))) (fun k_ h_ => h_)) (bQZ (by repeat (with_reducible first | exact HB.out | apply bQA | apply bQN | apply bQ1 | refine bQS ?_ GE446.out | refine bQS ?_ GE447.out | refine bQS ?_ GE448.out))))
 replace BK446 := Aq.mk (kQB (by (with_reducible repeat (first | refine kQN ?_ _ | refine kQD ?_ | refine kQA ?_ _)); exact BK446.out) hb)
 replace BK447 := Aq.mk (kQB (by (with_reducible repeat (first | refine kQN ?_ _ | refine kQD ?_ | refine kQA ?_ _)); exact BK447.out) hb)
 replace BK448 := Aq.mk (kQB (by (with_reducible repeat (first | refine kQN ?_ _ | refine kQD ?_ | refine kQA ?_ _)); exact BK448.out) hb)
 replace HB := Aq.mk (bQT (by repeat (with_reducible first | exact HB.out | apply bQA | apply bQN | apply bQ1 | refine bQS ?_ GE446.out | refine bQS ?_ GE447.out | refine bQS ?_ GE448.out)) hb)
 (try clear hb)
 (try clear hb2)
 (try clear hk)
 (try clear hi)
 (try clear ho0)
 obtain ⟨Ao13, co13, eo13⟩ := Kd.qbw HO454.out
 (first | subst eo13 | (injection eo13 with f1_ f2_ f3_; have f4_ := f1_.symm; have f5_ := f3_.symm; clear f1_ f2_ f3_; subst f4_; subst f5_))
 refine hK.out _ _ ⟨(kQC BK446.out 0).trans rfl, (kQC BK446.out 1).trans rfl, (kQC BK447.out 0).trans rfl, (kQC BK447.out 1).trans rfl⟩ (fun hHeld => ?_)
 clear hK K
 refine qb0 (a' := ?_) ?_ ?_
 rotate_left
 ·show Act.put _ (some 12) _ = _
  simp only [Act.put, qSa, qSb, qSc, qbl, qbn]
  rfl
 refine one_ (i := 8) (N := some 13) #[true, true, true, true, true, true, true, true, true, false, false] rfl rfl (qb2 HT_.out (by kernel_rfl)) (by decide) (fun K hK => ?_)
 refine goes_ Try.func66 (by kernel_rfl) rfl #[.slice Ao13 t452.length co13] (by rfl) rfl rfl (by (try simp only [List.map_toArray, List.map_cons, List.map_nil]); first | done | rfl | (simp only [List.length_drop, List.length_take]; rfl)) ?_
 with_reducible refine (qaf.calls k _ _ t452 t455 _ ?side1 ?side2 A4.out).mono ?_
 (case side1 => repeat (first | exact (Kd.qbi HO454.out).2.2 | (with_reducible refine Kd.CqA ?_ _) | (with_reducible refine Kd.CqN ?_ _) | (with_reducible refine Kd.CqD ?_)))
 (case side2 => exact (Kd.qbi HO454.out).2.1)
 rintro e w14 ⟨v456, rfl, ho0, hb⟩
 refine ⟨_, rfl, ?_⟩
 replace HO0_1 := Aq.mk (Kd.V_elder' (by (with_reducible repeat (first | apply Kd.V_alloc | apply Kd.V_drewN | apply Kd.V_drew)); exact HO0_1.out) (Kd.qbr ho0) hb)
 replace HO1_1 := Aq.mk (Kd.V_elder' (by (with_reducible repeat (first | apply Kd.V_alloc | apply Kd.V_drewN | apply Kd.V_drew)); exact HO1_1.out) (Kd.qbr ho0) hb)
 replace HO451 := Aq.mk (Kd.N_elder' (by (with_reducible repeat (first | apply Kd.N_alloc | apply Kd.N_drewN | apply Kd.N_drew)); exact HO451.out) (Kd.qbr ho0) hb)
 have HO457 := Aq.mk (Kd.qbx (Kd.qbu (Kd.R_newM (M := fun k_ => (w.heap.size ≤ k_)) ho0 (bQZ (by repeat (with_reducible first | exact HB.out | apply bQA | apply bQN | apply bQ1 | refine bQS ?_ GE446.out | refine bQS ?_ GE447.out | refine bQS ?_ GE448.out))) (fun k_ h_ => h_)) (Kd.R_lt (by (with_reducible repeat (first | apply rA | apply rN | apply rD)); exact HO454.out))) (bQZ (by repeat (with_reducible first | exact HB.out | apply bQA | apply bQN | apply bQ1 | refine bQS ?_ GE446.out | refine bQS ?_ GE447.out | refine bQS ?_ GE448.out))))
 replace HO454 := Aq.mk (Kd.qbm (by (with_reducible repeat (first | apply rA | apply rN | apply rD)); exact HO454.out) (Kd.qbr ho0) hb)
 replace BK446 := Aq.mk (kQB (by (with_reducible repeat (first | refine kQN ?_ _ | refine kQD ?_ | refine kQA ?_ _)); exact BK446.out) hb)
 replace BK447 := Aq.mk (kQB (by (with_reducible repeat (first | refine kQN ?_ _ | refine kQD ?_ | refine kQA ?_ _)); exact BK447.out) hb)
 replace BK448 := Aq.mk (kQB (by (with_reducible repeat (first | refine kQN ?_ _ | refine kQD ?_ | refine kQA ?_ _)); exact BK448.out) hb)
 replace HB := Aq.mk (bQT (by repeat (with_reducible first | exact HB.out | apply bQA | apply bQN | apply bQ1 | refine bQS ?_ GE446.out | refine bQS ?_ GE447.out | refine bQS ?_ GE448.out)) hb)
 (try clear hb)
 (try clear hb2)
 (try clear hk)
 (try clear hi)
 (try clear ho0)
 obtain ⟨Ao15, co15, eo15⟩ := Kd.qbw HO457.out
 (first | subst eo15 | (injection eo15 with f1_ f2_ f3_; have f4_ := f1_.symm; have f5_ := f3_.symm; clear f1_ f2_ f3_; subst f4_; subst f5_))
 refine hK.out _ _ ⟨(kQC BK446.out 0).trans rfl, (kQC BK446.out 1).trans rfl, (kQC BK447.out 0).trans rfl, (kQC BK447.out 1).trans rfl⟩ (fun hHeld => ?_)
 clear hK K
 refine qb0 (a' := ?_) ?_ ?_
 rotate_left
 ·show Act.put _ (some 13) _ = _
  simp only [Act.put, qSa, qSb, qSc, qbl, qbn]
  rfl
 refine qbv (i := 9) (N := some 14) (v := ?_) (a' := ?_) #[true, true, true, true, true, true, true, true, true, true, false] rfl rfl (qbp HT_.out (by kernel_rfl)) (fun _ _ _ h => h) (Or.inl ⟨by rfl, ?_⟩) ?_ ?_
 rotate_left
 ·intro w'
  go_simp
  with_reducible rfl
 rotate_left
 ·simp only [Act.put, qSa, qSb, qSc, qbl, qbn]
  rfl
 refine one_ (i := 10) (N := none) #[true, true, true, true, true, true, true, true, true, true, true] rfl rfl (qb2 HT_.out (by kernel_rfl)) (by decide) (fun K hK => ?_)
 have hs16 : w14.cell? ⟨gb448, 0, none⟩ = some (.int .i64 0) := (kQC BK448.out 0).trans rfl
 have hfs16 := kQF BK448.out 0
 have hns16_0 := NB446_448.out
 have hns16_1 := NB447_448.out
 have hms16_0 := NB448_446.out
 have hms16_1 := NB448_447.out
 have hs17 : w14.cell? ⟨gb448, 1, none⟩ = some (.slice none 0 0) := (kQC BK448.out 1).trans rfl
 have hfs17 := kQF BK448.out 1
 have hns17_0 := NB446_448.out
 have hns17_1 := NB447_448.out
 have hms17_0 := NB448_446.out
 have hms17_1 := NB448_447.out
 refine skip_ (w1 := ?_) (by rfl) rfl ?_ ?_
 rotate_left
 ·go_simp
  rfl
 refine hK.out _ _ ⟨((cell_far (p := ⟨gb448, _, none⟩) NB446_448.out _).trans (((cell_far (p := ⟨gb448, _, none⟩) NB446_448.out _).trans (hHeld.1)))), ((cell_far (p := ⟨gb448, _, none⟩) NB446_448.out _).trans (((cell_far (p := ⟨gb448, _, none⟩) NB446_448.out _).trans (hHeld.2.1)))), ((cell_far (p := ⟨gb448, _, none⟩) NB447_448.out _).trans (((cell_far (p := ⟨gb448, _, none⟩) NB447_448.out _).trans (hHeld.2.2.1)))), ((cell_far (p := ⟨gb448, _, none⟩) NB447_448.out _).trans (((cell_far (p := ⟨gb448, _, none⟩) NB447_448.out _).trans (hHeld.2.2.2))))⟩ (fun hHeld => ?_)
 clear hK K
 refine done_ (done_of HT_.out (by kernel_rfl)) ?_
 try go_wp2
 refine bodyPost_ret (results_cell_row rfl _ _ gb448 26 #[.int .i64 a0_0, .slice Ao15 t455.length co15] (0, 0) _ rfl (by (with_reducible repeat (first | refine kQN ?_ _ | refine kQD ?_ | refine kQA ?_ _)); refine kQP (cs := #[.int .i64 a0_0, .slice none 0 0]) ?_ 1 _ rfl; (with_reducible repeat (first | refine kQN ?_ _ | refine kQD ?_ | refine kQA ?_ _)); refine kQP (cs := #[.int .i64 0, .slice none 0 0]) ?_ 0 _ rfl; (with_reducible repeat (first | refine kQN ?_ _ | refine kQD ?_ | refine kQA ?_ _)); exact BK448.out) Try.underlying26 rfl (by kernel_rfl)) rfl ?_
 exact ⟨_, by first | rfl | (simp [errW_none, errW_some] <;> rfl) | (simp [*, errW_none, errW_some] <;> rfl), by (with_reducible repeat (first | apply rA | apply rN | apply rD)); exact Kd.qbj (Kd.qbs (p := ⟨gb448, 1, none⟩) (Kd.qbs (p := ⟨gb448, 0, none⟩) (Kd.qbq HO457.out BK448.out (by decide)) (fun _ hk => hk.2) (.int .i64 a0_0)) (fun _ hk => hk.2) (.slice Ao15 t455.length co15)) (fun _ hk => hk.1.1.1), by repeat (first | (with_reducible first | exact HB.out | apply bQA | apply bQN | apply bQ1 | refine bQS ?_ GE446.out | refine bQS ?_ GE447.out | refine bQS ?_ GE448.out) | exact HB.out)⟩
end Go.Proofs.Ytbaicdgkpnbipaa.P
