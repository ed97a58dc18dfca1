/- Functions of the program and what they tell, as the printing program wrote it. -/
import Derived.Test.YtbgbblgdbcjibaaPx0
import Derived.Test.YtbgbblgdbcjibaaPx1
import Derived.Test.YtbgbblgdbcjibaaPx5
import Derived.Test.YtbgbblgdbcjibaaPx7
import Derived.Test.YtbgbblgdbcjibaaPx14
import Derived.Test.YtbgbblgdbcjibaaPx15
namespace Go.Proofs.Ytbgbblgdbcjibaa.P
open Go.Shelf Go.RowKit Go.Proofs.YtbgbblgdbcjibaaW.PrintWords Go.Proofs.YtbgbblgdbcjibaaW.PrintLast Go.Proofs.YtbgbblgdbcjibaaW.PrintMore
attribute [local go_sem] max2_int min2_int max_two min_two max_three min_three max_four min_four
set_option linter.unusedVariables false
set_option linter.unusedSimpArgs false
set_option maxHeartbeats 8000000
set_option maxRecDepth 100000
mutual
def laws_FnExactSubfieldIn.j0 : Nat → Int → List Int → Int → List Int → Bool → Int → Int → Option (Bool)
  | 0, _, _, _, _, _, _, _ => none
  | k + 1, x1, x5, x6, x7, x35, x248000, x248001 => if x35 = true then (some false) else ((laws_markInt64S.f k x7 1).bind fun bt261 => ((laws_heldInt64S.f k bt261.2 1).bind fun t263 => (if t263 < 0 then (some false) else (if t263 = bt261.1 then ((laws_toField.f x248000 x248001).bind fun bt264 => ((impl_SubfieldIn.f k bt264.1 bt264.2 x1).bind fun bt266 => ((laws_eqInt64S.f k bt266.1 x5).bind fun t270 => (if t270 = true then (laws_FnExactSubfieldIn.j1 k bt261.2 bt261.1 (bt266.2 != x6)) else (laws_FnExactSubfieldIn.j1 k bt261.2 bt261.1 true))))) else (some false)))))
def laws_FnExactSubfieldIn.j1 : Nat → List Int → Int → Bool → Option (Bool)
  | 0, _, _, _ => none
  | k + 1, x7, x9, x62 => if x62 = true then (some false) else ((laws_heldInt64S.f k x7 1).bind fun t271 => (if t271 < 0 then (some false) else (if t271 = x9 then (some true) else (some false))))
end
def laws_FnExactSubfieldIn.f (k : Nat) (a0_0 : Int) (a0_1 : Int) (a1 : Int) : Option (Bool) := (laws_toField.f a0_0 a0_1).bind fun bt248 => ((spec_SubfieldIn.f k bt248.1 bt248.2 a1).bind fun bt250 => ((laws_toField.f a0_0 a0_1).bind fun bt254 => ((impl_SubfieldIn.f k bt254.1 bt254.2 a1).bind fun bt256 => ((laws_eqInt64S.f k bt256.1 bt250.1).bind fun t260 => (if t260 = true then (laws_FnExactSubfieldIn.j0 k a1 bt250.1 bt250.2 bt256.1 (bt256.2 != bt250.2) a0_0 a0_1) else (laws_FnExactSubfieldIn.j0 k a1 bt250.1 bt250.2 bt256.1 true a0_0 a0_1))))))
theorem laws_FnExactSubfieldIn.mono_l : ∀ k, (∀ y0 y1 y2 y3 y4 y5 y6, LeO (laws_FnExactSubfieldIn.j0 k y0 y1 y2 y3 y4 y5 y6) (laws_FnExactSubfieldIn.j0 (k + 1) y0 y1 y2 y3 y4 y5 y6)) ∧ (∀ y0 y1 y2, LeO (laws_FnExactSubfieldIn.j1 k y0 y1 y2) (laws_FnExactSubfieldIn.j1 (k + 1) y0 y1 y2))
 | 0 => ⟨fun _ _ _ _ _ _ _ r h => by simp [laws_FnExactSubfieldIn.j0] at h, fun _ _ _ r h => by simp [laws_FnExactSubfieldIn.j1] at h⟩
 | k + 1 => by
  obtain ⟨ih0, ih1⟩ := laws_FnExactSubfieldIn.mono_l k
  refine ⟨?_, ?_⟩ <;> intros <;> first | unfold laws_FnExactSubfieldIn.j0 | unfold laws_FnExactSubfieldIn.j1
  all_goals repeat' first
   | (with_reducible first | apply ih0 | apply ih1 | apply impl_SubfieldIn.mono | apply laws_eqInt64S.mono | apply laws_heldInt64S.mono | apply laws_markInt64S.mono | apply spec_SubfieldIn.mono | exact LeO.refl _ | exact LeO.none _ | refine LeO.ite ?_ ?_ | refine LeO.bind ?_ (fun _ => ?_))
   | exact LeO.none _
   | refine LeO.ite ?_ ?_
   | refine LeO.bind ?_ (fun _ => ?_)
theorem laws_FnExactSubfieldIn.mono : ∀ a0 a1 a2 k, LeO (laws_FnExactSubfieldIn.f k a0 a1 a2) (laws_FnExactSubfieldIn.f (k + 1) a0 a1 a2) := by
 intro a0 a1 a2 k
 obtain ⟨ih0, ih1⟩ := laws_FnExactSubfieldIn.mono_l k
 unfold laws_FnExactSubfieldIn.f
 repeat' first
  | (with_reducible first | apply ih0 | apply ih1 | apply impl_SubfieldIn.mono | apply laws_eqInt64S.mono | apply laws_heldInt64S.mono | apply laws_markInt64S.mono | apply spec_SubfieldIn.mono | exact LeO.refl _ | exact LeO.none _ | refine LeO.ite ?_ ?_ | refine LeO.bind ?_ (fun _ => ?_))
  | exact LeO.none _
  | refine LeO.ite ?_ ?_
  | refine LeO.bind ?_ (fun _ => ?_)
theorem laws_FnExactSubfieldIn.calls (k : Nat) (a0_0 : Int) (a0_1 : Int) (a1 : Int) (r : Bool) (w : World) (h : laws_FnExactSubfieldIn.f k a0_0 a0_1 a1 = some r) :
 Calls Try.prog 4 #[.agg #[.int .i64 a0_0, .int .i64 a0_1], .int .i64 a1] w fun e w' => e = .returned (.bool r) ∧ Below w.heap.size w w' := by
 have hu23 := Try.underlying23
 have HB := Aq.mk (Below.refl w.heap.size w)
 have H : ((laws_toField.f a0_0 a0_1).bind fun bt248 => ((spec_SubfieldIn.f k bt248.1 bt248.2 a1).bind fun bt250 => ((laws_toField.f a0_0 a0_1).bind fun bt254 => ((impl_SubfieldIn.f k bt254.1 bt254.2 a1).bind fun bt256 => ((laws_eqInt64S.f k bt256.1 bt250.1).bind fun t260 => (if t260 = true then (laws_FnExactSubfieldIn.j0 k a1 bt250.1 bt250.2 bt256.1 (bt256.2 != bt250.2) a0_0 a0_1) else (laws_FnExactSubfieldIn.j0 k a1 bt250.1 bt250.2 bt256.1 true a0_0 a0_1))))))) = some r := h
 clear h
 obtain ⟨⟨t248, t249⟩, A3, H⟩ := qBd H
 (try dsimp only at H)
 obtain ⟨⟨t250, t253⟩, A4, H⟩ := qBd H
 (try dsimp only at H)
 obtain ⟨⟨t254, t255⟩, A5, H⟩ := qBd H
 (try dsimp only at H)
 obtain ⟨⟨t256, t259⟩, A6, H⟩ := qBd H
 (try dsimp only at H)
 have HC7 := Aq.mk H
 clear H
 go_enter Try.func4, Try.ntmps4
 go_upto_region 3 with (first | ((with_reducible refine gQd (N := 2) rfl ?_); refine xQe ?hg (N := 2) ?hd (cs := #[.int .i64 a0_0, .int .i64 a0_1]) (t := 23) ?hr ?_; (case hd => rfl); (case hg => rfl); (case hr => exact tH); intro gb247 hg w8 hbox hb; refine qM4 (bQT tB hb) hbox (tZ w hg) (tZ w hg) ?_; clear HB; intro HB BK247 GW247 GE247; clear hb hbox hg; have hcz9_0 : w8.cell? ⟨gb247, 0, none⟩ = some (.int .i64 a0_0) := (kQC BK247.out 0).trans rfl; have hcz9_1 : w8.cell? ⟨gb247, 1, none⟩ = some (.int .i64 a0_1) := (kQC BK247.out 1).trans rfl; have hfz9_0 := kQF BK247.out 0; have hfz9_1 := kQF BK247.out 1) | ((with_reducible refine gQc (f := 10) rfl ?_); refine goesL_ (some 15) rfl rfl Try.func10 (by kernel_rfl) rfl #[.agg #[.int .i64 a0_0, .int .i64 a0_1]] rfl tL ?_; (with_reducible refine (laws_toField.calls a0_0 a0_1 t248 t249 _ A3.out).mono ?_); rintro e w10 ⟨rfl, hb⟩; refine ⟨_, rfl, ?_⟩; refine qM2 (tQ BK247.out hb) (bQT tB hb) ?_; clear BK247 HB; intro BK247 HB; (try clear hb); (try clear hb2); (try clear hk); (try clear hi)) | ((with_reducible refine gQc (f := 12) rfl ?_); refine goesL_ (some 17) rfl rfl Try.func12 (by kernel_rfl) rfl #[.agg #[.int .i64 t248, .int .i64 t249], .int .i64 a1] rfl tL ?_; (with_reducible refine (spec_SubfieldIn.calls k t248 t249 a1 t250 t253 _ A4.out).mono ?_); rintro e w11 ⟨v251, rfl, ho0, hb⟩; refine ⟨_, rfl, ?_⟩; refine qM3 (Kd.R_lower ho0 (bQZ tB)) (tQ BK247.out hb) (bQT tB hb) ?_; clear BK247 HB; intro HO252 BK247 HB; (try clear hb); (try clear hb2); (try clear hk); (try clear hi); (try clear ho0); have hcz12_0 : w11.cell? ⟨gb247, 0, none⟩ = some (.int .i64 a0_0) := (kQC BK247.out 0).trans rfl; have hcz12_1 : w11.cell? ⟨gb247, 1, none⟩ = some (.int .i64 a0_1) := (kQC BK247.out 1).trans rfl; have hfz12_0 := kQF BK247.out 0; have hfz12_1 := kQF BK247.out 1) | ((with_reducible refine gQc (f := 10) rfl ?_); refine goesL_ (some 22) rfl rfl Try.func10 (by kernel_rfl) rfl #[.agg #[.int .i64 a0_0, .int .i64 a0_1]] rfl tL ?_; (with_reducible refine (laws_toField.calls a0_0 a0_1 t254 t255 _ A5.out).mono ?_); rintro e w13 ⟨rfl, hb⟩; refine ⟨_, rfl, ?_⟩; refine qM3 (Kd.R_below (tR HO252.out) hb) (tQ BK247.out hb) (bQT tB hb) ?_; clear HO252 BK247 HB; intro HO252 BK247 HB; (try clear hb); (try clear hb2); (try clear hk); (try clear hi)) | ((with_reducible refine gQc (f := 13) rfl ?_); refine goesL_ (some 24) rfl rfl Try.func13 (by kernel_rfl) rfl #[.agg #[.int .i64 t254, .int .i64 t255], .int .i64 a1] rfl tL ?_; (with_reducible refine (impl_SubfieldIn.calls k t254 t255 a1 t256 t259 _ A6.out).mono ?_); rintro e w14 ⟨v257, rfl, ho0, hb⟩; refine ⟨_, rfl, ?_⟩; refine qM4 (Kd.R_elder' (tR HO252.out) (Kd.R_base ho0) hb) (Kd.R_lower (Kd.R_new' ho0 (Kd.R_lt (tR HO252.out))) (bQZ tB)) (tQ BK247.out hb) (bQT tB hb) ?_; clear HO252 BK247 HB; intro HO252 HO258 BK247 HB; (try clear hb); (try clear hb2); (try clear hk); (try clear hi); (try clear ho0)))
 (try simp only [Act.put, qSa, qSb, qSc])
 go_cut [35] (fun v35 wc => ∃ (kq : Nat) (x35_6 : Bool), v35 = .bool x35_6 ∧ Aq (laws_FnExactSubfieldIn.j0 kq a1 t250 t253 t256 x35_6 a0_0 a0_1 = some r) ∧ Aq (kq ≤ k) ∧ Aq (Kd.R (Kd.int .i64) 2 wc w.heap.size (fun k_ => some k_ ≠ (v257 : Value).ownBlock) v251 t250) ∧ Aq (Kd.R (Kd.int .i64) 2 wc w.heap.size (fun k_ => some k_ ≠ (v251 : Value).ownBlock) v257 t256) ∧ Aq (wc.heap[gb247]? = some (.cells #[.int .i64 a0_0, .int .i64 a0_1] 23 (0, 0))) ∧ Aq (Below w.heap.size w wc))
 case first =>
  have H := HC7.out
  clear HC7
  obtain ⟨t260, A15, H⟩ := qBd H
  by_cases c16 : t260 = true
  ·subst c16
   rw [if_pos rfl] at H
   replace H' := Aq.mk H
   clear H
   obtain ⟨Ao17, co17, eo17⟩ := Kd.R_slice HO258.out
   subst eo17
   obtain ⟨Ao18, co18, eo18⟩ := Kd.R_slice HO252.out
   subst eo18
   go_wp2_with (first | ((with_reducible refine gQc (f := 14) rfl ?_); refine goesL_ (some 29) rfl rfl Try.func14 (by kernel_rfl) rfl #[.slice Ao17 t256.length co17, .slice Ao18 t250.length co18] rfl tL ?_; (with_reducible refine (laws_eqInt64S.calls k _ _ t256 _ _ t250 true _ ?s1 ?s2 ?s3 ?s4 A15.out).mono ?_); (case s1 => exact tC ((Kd.R_reads' HO258.out).2.2)); (case s2 => exact (Kd.R_reads' HO258.out).2.1); (case s3 => exact tC ((Kd.R_reads' HO252.out).2.2)); (case s4 => exact (Kd.R_reads' HO252.out).2.1); rintro e w' ⟨rfl, ⟨nd, rfl⟩⟩; refine ⟨_, rfl, ?_⟩))
   go_meet
   case rel => exact ⟨_, ((t259 != t253)), tS, H', ⟨tO⟩, ⟨by (with_reducible repeat (first | apply Kd.RqA | apply Kd.RqN | apply Kd.RqD)); exact Kd.R_mono HO252.out (fun _ hk => hk.2)⟩, ⟨by (with_reducible repeat (first | apply Kd.RqA | apply Kd.RqN | apply Kd.RqD)); exact Kd.R_mono HO258.out (fun _ hk => hk.2)⟩, ⟨tG BK247.out⟩, ⟨tB⟩⟩
  replace c16 := Bool.eq_false_iff.mpr c16
  subst c16
  rw [if_neg (show ¬ (false = true) by decide)] at H
  replace H' := Aq.mk H
  clear H
  obtain ⟨Ao19, co19, eo19⟩ := Kd.R_slice HO258.out
  subst eo19
  obtain ⟨Ao20, co20, eo20⟩ := Kd.R_slice HO252.out
  subst eo20
  go_wp2_with (first | ((with_reducible refine gQc (f := 14) rfl ?_); refine goesL_ (some 29) rfl rfl Try.func14 (by kernel_rfl) rfl #[.slice Ao19 t256.length co19, .slice Ao20 t250.length co20] rfl tL ?_; (with_reducible refine (laws_eqInt64S.calls k _ _ t256 _ _ t250 false _ ?s1 ?s2 ?s3 ?s4 A15.out).mono ?_); (case s1 => exact tC ((Kd.R_reads' HO258.out).2.2)); (case s2 => exact (Kd.R_reads' HO258.out).2.1); (case s3 => exact tC ((Kd.R_reads' HO252.out).2.2)); (case s4 => exact (Kd.R_reads' HO252.out).2.1); rintro e w' ⟨rfl, ⟨nd, rfl⟩⟩; refine ⟨_, rfl, ?_⟩))
  go_meet
  case rel => exact ⟨_, (true), tS, H', ⟨tO⟩, ⟨by (with_reducible repeat (first | apply Kd.RqA | apply Kd.RqN | apply Kd.RqD)); exact Kd.R_mono HO252.out (fun _ hk => hk.2)⟩, ⟨by (with_reducible repeat (first | apply Kd.RqA | apply Kd.RqN | apply Kd.RqD)); exact Kd.R_mono HO258.out (fun _ hk => hk.2)⟩, ⟨tG BK247.out⟩, ⟨tB⟩⟩
 clear HC7
 try clear c16
 try clear hcz12_0
 try clear hcz12_1
 try clear hcz9_0
 try clear hcz9_1
 try clear hfz12_0
 try clear hfz12_1
 try clear hfz9_0
 try clear hfz9_1
 obtain ⟨kq, x35_6, rfl, HA, HJ6, HO_5, HO_7, BK247, HB⟩ := hcut
 cases kq with
 | zero => exact absurd HA.out (by simp [laws_FnExactSubfieldIn.j0])
 | succ kj6 =>
  have H := HA.out
  clear HA
  simp only [laws_FnExactSubfieldIn.j0] at H
  by_cases c21 : x35_6 = true
  ·subst c21
   rw [if_pos rfl] at H
   obtain rfl := Option.some.inj H
   go_wp2
   go_ret
   exact ⟨tE, tB⟩
  replace c21 := Bool.eq_false_iff.mpr c21
  subst c21
  rw [if_neg (show ¬ (false = true) by decide)] at H
  obtain ⟨⟨t261, t262⟩, A22, H⟩ := qBd H
  (try dsimp only at H)
  obtain ⟨t263, A23, H⟩ := qBd H
  by_cases c24 : t263 < 0
  ·rw [if_pos c24] at H
   have c24b0 := decide_eq_true c24
   clear c24
   obtain rfl := Option.some.inj H
   obtain ⟨Ao25, co25, eo25⟩ := Kd.R_slice HO_7.out
   subst eo25
   go_wp2_with (first | ((with_reducible refine gQc (f := 15) rfl ?_); refine goesL_ (some 38) rfl rfl Try.func15 (by kernel_rfl) rfl #[.slice Ao25 t256.length co25, .int .i64 1] rfl tL ?_; (with_reducible refine (laws_markInt64S.calls kj6 (fun k_ => some k_ = (.slice Ao25 t256.length co25 : Value).ownBlock) (.slice Ao25 t256.length co25) t256 1 t261 t262 w _ ?s1 ?s2 A22.out).mono ?_); (case s1 => exact tB); (case s2 => exact Kd.R_tight rfl HO_7.out); rintro e w26 ⟨rfl, hy0, hb, hkp⟩; refine ⟨_, rfl, ?_⟩; refine qM4 (Kd.R_mono (ok' := fun k_ => some k_ ≠ (.slice Ao25 t256.length co25 : Value).ownBlock) (Kd.R_keptB (HO_5.out) hkp (fun k_ hk_ hs_ => (hk_) hs_)) (fun k_ hk_ => hk_.1)) (Kd.R_reok rfl hy0 (fun k_ e_ => HO_7.out.1 k_ e_)) (blk_kept (tG BK247.out) hkp (fun hs_ => (fun e_ => (Kd.R_ne HO_7.out BK247.out (by decide)) e_) hs_)) hb ?_; clear HO_5 HO_7 BK247 HB; intro HO_5 HO_7 BK247 HB; (try clear hb); (try clear hkp); (try clear hy0)) | ((with_reducible refine gQc (f := 16) rfl ?_); refine goesL_ (some 41) rfl rfl Try.func16 (by kernel_rfl) rfl #[.slice Ao25 t262.length co25, .int .i64 1] rfl (by (try simp only [List.map_toArray, List.map_cons, List.map_nil]); first | done | (rw [show t262.length = t256.length from (Kd.R_reads' HO_7.out).1.symm] <;> rfl) | rfl | (simp only [List.length_drop, List.length_take]; rfl)) ?_; (with_reducible refine (laws_heldInt64S.calls kj6 _ _ t262 1 t263 _ ?s1 ?s2 A23.out).mono ?_); (case s1 => exact tC ((Kd.R_reads' HO_7.out).2.2)); (case s2 => rw [show t262.length = t256.length from (Kd.R_reads' HO_7.out).1.symm]; exact (Kd.R_reads' HO_7.out).2.1); rintro e w' ⟨rfl, ⟨nd, rfl⟩⟩; refine ⟨_, rfl, ?_⟩))
   go_ret
   exact ⟨tE, tB⟩
  rw [if_neg c24] at H
  have c24b0 := decide_eq_false c24
  clear c24
  by_cases c27 : t263 = t261
  rotate_left
  ·rw [if_neg c27] at H
   have c27b0 := beq_eq_false_iff_ne.mpr c27
   have c27b1 := bne_iff_ne.mpr c27
   obtain rfl := Option.some.inj H
   obtain ⟨Ao46, co46, eo46⟩ := Kd.R_slice HO_7.out
   subst eo46
   go_wp2_with (first | ((with_reducible refine gQc (f := 15) rfl ?_); refine goesL_ (some 38) rfl rfl Try.func15 (by kernel_rfl) rfl #[.slice Ao46 t256.length co46, .int .i64 1] rfl tL ?_; (with_reducible refine (laws_markInt64S.calls kj6 (fun k_ => some k_ = (.slice Ao46 t256.length co46 : Value).ownBlock) (.slice Ao46 t256.length co46) t256 1 t261 t262 w _ ?s1 ?s2 A22.out).mono ?_); (case s1 => exact tB); (case s2 => exact Kd.R_tight rfl HO_7.out); rintro e w47 ⟨rfl, hy0, hb, hkp⟩; refine ⟨_, rfl, ?_⟩; refine qM4 (Kd.R_mono (ok' := fun k_ => some k_ ≠ (.slice Ao46 t256.length co46 : Value).ownBlock) (Kd.R_keptB (HO_5.out) hkp (fun k_ hk_ hs_ => (hk_) hs_)) (fun k_ hk_ => hk_.1)) (Kd.R_reok rfl hy0 (fun k_ e_ => HO_7.out.1 k_ e_)) (blk_kept (tG BK247.out) hkp (fun hs_ => (fun e_ => (Kd.R_ne HO_7.out BK247.out (by decide)) e_) hs_)) hb ?_; clear HO_5 HO_7 BK247 HB; intro HO_5 HO_7 BK247 HB; (try clear hb); (try clear hkp); (try clear hy0)) | ((with_reducible refine gQc (f := 16) rfl ?_); refine goesL_ (some 41) rfl rfl Try.func16 (by kernel_rfl) rfl #[.slice Ao46 t262.length co46, .int .i64 1] rfl (by (try simp only [List.map_toArray, List.map_cons, List.map_nil]); first | done | (rw [show t262.length = t256.length from (Kd.R_reads' HO_7.out).1.symm] <;> rfl) | rfl | (simp only [List.length_drop, List.length_take]; rfl)) ?_; (with_reducible refine (laws_heldInt64S.calls kj6 _ _ t262 1 t263 _ ?s1 ?s2 A23.out).mono ?_); (case s1 => exact tC ((Kd.R_reads' HO_7.out).2.2)); (case s2 => rw [show t262.length = t256.length from (Kd.R_reads' HO_7.out).1.symm]; exact (Kd.R_reads' HO_7.out).2.1); rintro e w' ⟨rfl, ⟨nd, rfl⟩⟩; refine ⟨_, rfl, ?_⟩))
   go_ret
   exact ⟨tE, tB⟩
  rw [if_pos c27] at H
  have c27b0 := beq_iff_eq.mpr c27
  have c27b1 := bne_eq_false_iff_eq.mpr c27
  clear c27
  obtain ⟨⟨t264, t265⟩, A28, H⟩ := qBd H
  (try dsimp only at H)
  obtain ⟨⟨t266, t269⟩, A29, H⟩ := qBd H
  (try dsimp only at H)
  have HC30 := Aq.mk H
  clear H
  obtain ⟨Ao31, co31, eo31⟩ := Kd.R_slice HO_7.out
  subst eo31
  go_upto_region 14 with (first | ((with_reducible refine gQc (f := 15) rfl ?_); refine goesL_ (some 38) rfl rfl Try.func15 (by kernel_rfl) rfl #[.slice Ao31 t256.length co31, .int .i64 1] rfl tL ?_; (with_reducible refine (laws_markInt64S.calls kj6 (fun k_ => some k_ = (.slice Ao31 t256.length co31 : Value).ownBlock) (.slice Ao31 t256.length co31) t256 1 t261 t262 w _ ?s1 ?s2 A22.out).mono ?_); (case s1 => exact tB); (case s2 => exact Kd.R_tight rfl HO_7.out); rintro e w32 ⟨rfl, hy0, hb, hkp⟩; refine ⟨_, rfl, ?_⟩; refine qM4 (Kd.R_mono (ok' := fun k_ => some k_ ≠ (.slice Ao31 t256.length co31 : Value).ownBlock) (Kd.R_keptB (HO_5.out) hkp (fun k_ hk_ hs_ => (hk_) hs_)) (fun k_ hk_ => hk_.1)) (Kd.R_reok rfl hy0 (fun k_ e_ => HO_7.out.1 k_ e_)) (blk_kept (tG BK247.out) hkp (fun hs_ => (fun e_ => (Kd.R_ne HO_7.out BK247.out (by decide)) e_) hs_)) hb ?_; clear HO_5 HO_7 BK247 HB; intro HO_5 HO_7 BK247 HB; (try clear hb); (try clear hkp); (try clear hy0)) | ((with_reducible refine gQc (f := 16) rfl ?_); refine goesL_ (some 41) rfl rfl Try.func16 (by kernel_rfl) rfl #[.slice Ao31 t262.length co31, .int .i64 1] rfl (by (try simp only [List.map_toArray, List.map_cons, List.map_nil]); first | done | (rw [show t262.length = t256.length from (Kd.R_reads' HO_7.out).1.symm] <;> rfl) | rfl | (simp only [List.length_drop, List.length_take]; rfl)) ?_; (with_reducible refine (laws_heldInt64S.calls kj6 _ _ t262 1 t263 _ ?s1 ?s2 A23.out).mono ?_); (case s1 => exact tC ((Kd.R_reads' HO_7.out).2.2)); (case s2 => rw [show t262.length = t256.length from (Kd.R_reads' HO_7.out).1.symm]; exact (Kd.R_reads' HO_7.out).2.1); rintro e w' ⟨rfl, ⟨nd, rfl⟩⟩; refine ⟨_, rfl, ?_⟩; have hcz33_0 : w32.cell? ⟨gb247, 0, none⟩ = some (.int .i64 a0_0) := (kQC BK247.out 0).trans rfl; have hcz33_1 : w32.cell? ⟨gb247, 1, none⟩ = some (.int .i64 a0_1) := (kQC BK247.out 1).trans rfl; have hfz33_0 := kQF BK247.out 0; have hfz33_1 := kQF BK247.out 1) | ((with_reducible refine gQc (f := 10) rfl ?_); refine goesL_ (some 49) rfl rfl Try.func10 (by kernel_rfl) rfl #[.agg #[.int .i64 a0_0, .int .i64 a0_1]] rfl tL ?_; (with_reducible refine (laws_toField.calls a0_0 a0_1 t264 t265 _ A28.out).mono ?_); rintro e w34 ⟨rfl, hb⟩; refine ⟨_, rfl, ?_⟩; refine qM4 (Kd.R_below (tR HO_5.out) hb) (Kd.R_below (tR HO_7.out) hb) (tQ BK247.out hb) (bQT tB hb) ?_; clear HO_5 HO_7 BK247 HB; intro HO_5 HO_7 BK247 HB; (try clear hb); (try clear hb2); (try clear hk); (try clear hi)) | ((with_reducible refine gQc (f := 13) rfl ?_); refine goesL_ (some 51) rfl rfl Try.func13 (by kernel_rfl) rfl #[.agg #[.int .i64 t264, .int .i64 t265], .int .i64 a1] rfl tL ?_; (with_reducible refine (impl_SubfieldIn.calls kj6 t264 t265 a1 t266 t269 _ A29.out).mono ?_); rintro e w35 ⟨v267, rfl, ho0, hb⟩; refine ⟨_, rfl, ?_⟩; refine qM5 (Kd.R_elder' (tR HO_5.out) (Kd.R_base ho0) hb) (Kd.R_elder' (tR HO_7.out) (Kd.R_base ho0) hb) (Kd.R_lower (Kd.R_new' (Kd.R_new' ho0 (Kd.R_lt (tR HO_5.out))) (Kd.R_lt (tR HO_7.out))) (bQZ tB)) (tQ BK247.out hb) (bQT tB hb) ?_; clear HO_5 HO_7 BK247 HB; intro HO_5 HO_7 HO268 BK247 HB; (try clear hb); (try clear hb2); (try clear hk); (try clear hi); (try clear ho0)))
  (try simp only [Act.put, qSa, qSb, qSc])
  go_cut [62] (fun v62 wc => ∃ (kq : Nat) (x62_29 : Bool), v62 = .bool x62_29 ∧ Aq (laws_FnExactSubfieldIn.j1 kq t262 t261 x62_29 = some r) ∧ Aq (kq ≤ kj6) ∧ Aq (Kd.R (Kd.int .i64) 2 wc w.heap.size (fun _ => True) (.slice Ao31 t256.length co31) t262) ∧ Aq (wc.heap[gb247]? = some (.cells #[.int .i64 a0_0, .int .i64 a0_1] 23 (0, 0))) ∧ Aq (Below w.heap.size w wc))
  case first =>
   have H := HC30.out
   clear HC30
   obtain ⟨t270, A36, H⟩ := qBd H
   by_cases c37 : t270 = true
   ·subst c37
    rw [if_pos rfl] at H
    replace H' := Aq.mk H
    clear H
    obtain ⟨Ao38, co38, eo38⟩ := Kd.R_slice HO268.out
    subst eo38
    obtain ⟨Ao39, co39, eo39⟩ := Kd.R_slice HO_5.out
    subst eo39
    go_wp2_with (first | ((with_reducible refine gQc (f := 14) rfl ?_); refine goesL_ (some 56) rfl rfl Try.func14 (by kernel_rfl) rfl #[.slice Ao38 t266.length co38, .slice Ao39 t250.length co39] rfl tL ?_; (with_reducible refine (laws_eqInt64S.calls kj6 _ _ t266 _ _ t250 true _ ?s1 ?s2 ?s3 ?s4 A36.out).mono ?_); (case s1 => exact tC ((Kd.R_reads' HO268.out).2.2)); (case s2 => exact (Kd.R_reads' HO268.out).2.1); (case s3 => exact tC ((Kd.R_reads' HO_5.out).2.2)); (case s4 => exact (Kd.R_reads' HO_5.out).2.1); rintro e w' ⟨rfl, ⟨nd, rfl⟩⟩; refine ⟨_, rfl, ?_⟩))
    go_meet
    case rel => exact ⟨_, ((t269 != t253)), tS, H', ⟨by have := HJ6.out; first | omega | exact Nat.le_refl _⟩, ⟨by (with_reducible repeat (first | apply Kd.RqA | apply Kd.RqN | apply Kd.RqD)); exact Kd.R_mono HO_7.out (fun _ hk => trivial)⟩, ⟨tG BK247.out⟩, ⟨tB⟩⟩
   replace c37 := Bool.eq_false_iff.mpr c37
   subst c37
   rw [if_neg (show ¬ (false = true) by decide)] at H
   replace H' := Aq.mk H
   clear H
   obtain ⟨Ao40, co40, eo40⟩ := Kd.R_slice HO268.out
   subst eo40
   obtain ⟨Ao41, co41, eo41⟩ := Kd.R_slice HO_5.out
   subst eo41
   go_wp2_with (first | ((with_reducible refine gQc (f := 14) rfl ?_); refine goesL_ (some 56) rfl rfl Try.func14 (by kernel_rfl) rfl #[.slice Ao40 t266.length co40, .slice Ao41 t250.length co41] rfl tL ?_; (with_reducible refine (laws_eqInt64S.calls kj6 _ _ t266 _ _ t250 false _ ?s1 ?s2 ?s3 ?s4 A36.out).mono ?_); (case s1 => exact tC ((Kd.R_reads' HO268.out).2.2)); (case s2 => exact (Kd.R_reads' HO268.out).2.1); (case s3 => exact tC ((Kd.R_reads' HO_5.out).2.2)); (case s4 => exact (Kd.R_reads' HO_5.out).2.1); rintro e w' ⟨rfl, ⟨nd, rfl⟩⟩; refine ⟨_, rfl, ?_⟩))
   go_meet
   case rel => exact ⟨_, (true), tS, H', ⟨by have := HJ6.out; first | omega | exact Nat.le_refl _⟩, ⟨by (with_reducible repeat (first | apply Kd.RqA | apply Kd.RqN | apply Kd.RqD)); exact Kd.R_mono HO_7.out (fun _ hk => trivial)⟩, ⟨tG BK247.out⟩, ⟨tB⟩⟩
  clear HC30
  try clear c16
  try clear c21
  try clear c24
  try clear c24b0
  try clear c27
  try clear c27b0
  try clear c27b1
  try clear c37
  try clear hcz12_0
  try clear hcz12_1
  try clear hcz33_0
  try clear hcz33_1
  try clear hcz9_0
  try clear hcz9_1
  try clear hfz12_0
  try clear hfz12_1
  try clear hfz33_0
  try clear hfz33_1
  try clear hfz9_0
  try clear hfz9_1
  obtain ⟨kq, x62_29, rfl, HA, HJ29, HO_7, BK247, HB⟩ := hcut
  have hl7_29 := (Kd.R_reads' HO_7.out).1
  rw [hl7_29] at HO_7
  (try simp only [hl7_29])
  (try simp only [hl7_29] at BK247)
  cases kq with
  | zero => exact absurd HA.out (by simp [laws_FnExactSubfieldIn.j1])
  | succ kj29 =>
   have H := HA.out
   clear HA
   simp only [laws_FnExactSubfieldIn.j1] at H
   by_cases c42 : x62_29 = true
   ·subst c42
    rw [if_pos rfl] at H
    obtain rfl := Option.some.inj H
    go_wp2
    go_ret
    exact ⟨tE, tB⟩
   replace c42 := Bool.eq_false_iff.mpr c42
   subst c42
   rw [if_neg (show ¬ (false = true) by decide)] at H
   obtain ⟨t271, A43, H⟩ := qBd H
   by_cases c44 : t271 < 0
   ·rw [if_pos c44] at H
    have c44b0 := decide_eq_true c44
    clear c44
    (try (have c44b0z := c44b0; simp only [hl7_29] at c44b0z))
    obtain rfl := Option.some.inj H
    go_wp2_with (first | ((with_reducible refine gQc (f := 16) rfl ?_); refine goesL_ (some 65) rfl rfl Try.func16 (by kernel_rfl) rfl #[.slice Ao31 t262.length co31, .int .i64 1] rfl tL ?_; (with_reducible refine (laws_heldInt64S.calls kj29 _ _ t262 1 t271 _ ?s1 ?s2 A43.out).mono ?_); (case s1 => exact tC ((Kd.R_reads' HO_7.out).2.2)); (case s2 => exact (Kd.R_reads' HO_7.out).2.1); rintro e w' ⟨rfl, ⟨nd, rfl⟩⟩; refine ⟨_, rfl, ?_⟩))
    go_ret
    exact ⟨tE, tB⟩
   rw [if_neg c44] at H
   have c44b0 := decide_eq_false c44
   clear c44
   (try (have c44b0z := c44b0; simp only [hl7_29] at c44b0z))
   by_cases c45 : t271 = t261
   ·rw [if_pos c45] at H
    have c45b0 := beq_iff_eq.mpr c45
    have c45b1 := bne_eq_false_iff_eq.mpr c45
    clear c45
    (try (have c45b0z := c45b0; simp only [hl7_29] at c45b0z))
    (try (have c45b1z := c45b1; simp only [hl7_29] at c45b1z))
    obtain rfl := Option.some.inj H
    go_wp2_with (first | ((with_reducible refine gQc (f := 16) rfl ?_); refine goesL_ (some 65) rfl rfl Try.func16 (by kernel_rfl) rfl #[.slice Ao31 t262.length co31, .int .i64 1] rfl tL ?_; (with_reducible refine (laws_heldInt64S.calls kj29 _ _ t262 1 t271 _ ?s1 ?s2 A43.out).mono ?_); (case s1 => exact tC ((Kd.R_reads' HO_7.out).2.2)); (case s2 => exact (Kd.R_reads' HO_7.out).2.1); rintro e w' ⟨rfl, ⟨nd, rfl⟩⟩; refine ⟨_, rfl, ?_⟩))
    go_ret
    exact ⟨tE, tB⟩
   rw [if_neg c45] at H
   have c45b0 := beq_eq_false_iff_ne.mpr c45
   have c45b1 := bne_iff_ne.mpr c45
   (try (have c45b0z := c45b0; simp only [hl7_29] at c45b0z))
   (try (have c45b1z := c45b1; simp only [hl7_29] at c45b1z))
   obtain rfl := Option.some.inj H
   go_wp2_with (first | ((with_reducible refine gQc (f := 16) rfl ?_); refine goesL_ (some 65) rfl rfl Try.func16 (by kernel_rfl) rfl #[.slice Ao31 t262.length co31, .int .i64 1] rfl tL ?_; (with_reducible refine (laws_heldInt64S.calls kj29 _ _ t262 1 t271 _ ?s1 ?s2 A43.out).mono ?_); (case s1 => exact tC ((Kd.R_reads' HO_7.out).2.2)); (case s2 => exact (Kd.R_reads' HO_7.out).2.1); rintro e w' ⟨rfl, ⟨nd, rfl⟩⟩; refine ⟨_, rfl, ?_⟩))
   go_ret
   exact ⟨tE, tB⟩
end Go.Proofs.Ytbgbblgdbcjibaa.P
