/- Functions of the program and what they tell, as the printing program wrote it. -/
import Derived.Test.YtbalkaphibnpcaaPx0
import Derived.Test.YtbalkaphibnpcaaPx5
import Derived.Test.YtbalkaphibnpcaaPx6
import Derived.Test.YtbalkaphibnpcaaPx8
import Derived.Test.YtbalkaphibnpcaaPx16
import Derived.Test.YtbalkaphibnpcaaPx17
import Derived.Test.YtbalkaphibnpcaaPx29
namespace Go.Proofs.Ytbalkaphibnpcaa.P
open Go.Shelf Go.RowKit Go.Proofs.YtbalkaphibnpcaaW.PrintWords Go.Proofs.YtbalkaphibnpcaaW.PrintLast Go.Proofs.YtbalkaphibnpcaaW.PrintMore
attribute [local go_sem] max2_int min2_int max_two min_two max_three min_three max_four min_four
set_option linter.unusedVariables false
set_option linter.unusedSimpArgs false
set_option maxHeartbeats 8000000
set_option maxRecDepth 100000
theorem ghost4 {α β : Type} {d : Kd α} {d' : Kd β} {e e' b b6 g : Nat} {W w' : World} {ok ok6 : Nat → Prop} {v v6 : Value} {xs : List α} {ys : List β} (h4 : Kd.S d e w' W.heap.size ok v xs) (hb : Below W.heap.size W w') (h6 : Kd.N d' e' W b6 ok6 v6 ys) (hg : g < W.heap.size) (hl : b ≤ W.heap.size) :
 ∃ n3, n3 ≤ w'.heap.size ∧ g < n3 ∧ Kd.N d' e' w' b6 (fun k => k < n3) v6 ys ∧ Kd.S d e w' b (fun k => n3 ≤ k ∧ k < w'.heap.size) v xs :=
 ⟨W.heap.size, hb.size, hg, Kd.N_below (Kd.N_mono (Kd.N_bound h6) (fun _ hk => hk.2)) hb, Kd.S_lower (Kd.S_mono (Kd.S_bound h4) (fun _ hk => ⟨hk.2.1, hk.2.2.1⟩)) hl⟩
mutual
def laws_FnExactFieldEchelon.j0 : Nat → Int → List (List Int) → List (List Int) → Int → List (List Int) → List (List Int) → Int → Bool → Int → Int → Option (Bool)
  | 0, _, _, _, _, _, _, _, _, _, _ => none
  | k + 1, x1, x2, x8, x9, x10, x11, x12, x50, x321000, x321001 => if x50 = true then (some false) else ((laws_toInt64SS.f k x2).bind fun t341 => ((laws_eqInt64SS.f k x10 t341).bind fun t344 => (if t344 = true then ((laws_markInt64SS.f k x10 1).bind fun bt345 => (if bt345.1 < 0 then (laws_FnExactFieldEchelon.j1 k x1 x2 x8 x9 x11 true x321000 x321001) else ((laws_eqInt64SS.f k x11 x8).bind fun t346 => (if t346 = true then (laws_FnExactFieldEchelon.j1 k x1 x2 x8 x9 x11 (x12 != x9) x321000 x321001) else (laws_FnExactFieldEchelon.j1 k x1 x2 x8 x9 x11 true x321000 x321001))))) else (some false))))
def laws_FnExactFieldEchelon.j1 : Nat → Int → List (List Int) → List (List Int) → Int → List (List Int) → Bool → Int → Int → Option (Bool)
  | 0, _, _, _, _, _, _, _, _ => none
  | k + 1, x1, x2, x8, x9, x11, x71, x321000, x321001 => if x71 = true then (some false) else ((laws_markInt64SS.f k x11 1).bind fun bt347 => ((laws_heldInt64SS.f k bt347.2 1).bind fun t348 => (if t348 < 0 then (some false) else (if t348 = bt347.1 then ((laws_toField.f x321000 x321001).bind fun bt349 => ((laws_toInt64SS.f k x2).bind fun t351 => ((impl_FieldEchelon.f k bt349.1 bt349.2 x1 t351).bind fun bt354 => ((laws_eqInt64SS.f k bt354.1 x8).bind fun t358 => (if t358 = true then (laws_FnExactFieldEchelon.j2 k bt347.2 bt347.1 (bt354.2 != x9)) else (laws_FnExactFieldEchelon.j2 k bt347.2 bt347.1 true)))))) else (some false)))))
def laws_FnExactFieldEchelon.j2 : Nat → List (List Int) → Int → Bool → Option (Bool)
  | 0, _, _, _ => none
  | k + 1, x11, x14, x100 => if x100 = true then (some false) else ((laws_heldInt64SS.f k x11 1).bind fun t359 => (if t359 < 0 then (some false) else (if t359 = x14 then (some true) else (some false))))
end
def laws_FnExactFieldEchelon.f (k : Nat) (a0_0 : Int) (a0_1 : Int) (a1 : Int) (l2 : List (List Int)) : Option (Bool) := (laws_szInt64SS.f k l2 1048576).bind fun t321 => (if t321 < 0 then (some true) else ((laws_toField.f a0_0 a0_1).bind fun bt322 => ((laws_toInt64SS.f k l2).bind fun t324 => ((spec_FieldEchelon.f k bt322.1 bt322.2 a1 t324).bind fun bt327 => ((laws_toInt64SS.f k l2).bind fun t331 => ((laws_toField.f a0_0 a0_1).bind fun bt334 => ((impl_FieldEchelon.f k bt334.1 bt334.2 a1 t331).bind fun bt336 => ((laws_eqInt64SS.f k bt336.1 bt327.1).bind fun t340 => (if t340 = true then (laws_FnExactFieldEchelon.j0 k a1 l2 bt327.1 bt327.2 t331 bt336.1 bt336.2 (bt336.2 != bt327.2) a0_0 a0_1) else (laws_FnExactFieldEchelon.j0 k a1 l2 bt327.1 bt327.2 t331 bt336.1 bt336.2 true a0_0 a0_1))))))))))
theorem laws_FnExactFieldEchelon.mono_l : ∀ k, (∀ y0 y1 y2 y3 y4 y5 y6 y7 y8 y9, LeO (laws_FnExactFieldEchelon.j0 k y0 y1 y2 y3 y4 y5 y6 y7 y8 y9) (laws_FnExactFieldEchelon.j0 (k + 1) y0 y1 y2 y3 y4 y5 y6 y7 y8 y9)) ∧ (∀ y0 y1 y2 y3 y4 y5 y6 y7, LeO (laws_FnExactFieldEchelon.j1 k y0 y1 y2 y3 y4 y5 y6 y7) (laws_FnExactFieldEchelon.j1 (k + 1) y0 y1 y2 y3 y4 y5 y6 y7)) ∧ (∀ y0 y1 y2, LeO (laws_FnExactFieldEchelon.j2 k y0 y1 y2) (laws_FnExactFieldEchelon.j2 (k + 1) y0 y1 y2))
 | 0 => ⟨fun _ _ _ _ _ _ _ _ _ _ r h => by simp [laws_FnExactFieldEchelon.j0] at h, fun _ _ _ _ _ _ _ _ r h => by simp [laws_FnExactFieldEchelon.j1] at h, fun _ _ _ r h => by simp [laws_FnExactFieldEchelon.j2] at h⟩
 | k + 1 => by
  obtain ⟨ih0, ih1, ih2⟩ := laws_FnExactFieldEchelon.mono_l k
  refine ⟨?_, ?_, ?_⟩ <;> intros <;> first | unfold laws_FnExactFieldEchelon.j0 | unfold laws_FnExactFieldEchelon.j1 | unfold laws_FnExactFieldEchelon.j2
  all_goals repeat' first
   | (with_reducible first | apply ih0 | apply ih1 | apply ih2 | apply impl_FieldEchelon.mono | apply laws_eqInt64SS.mono | apply laws_heldInt64SS.mono | apply laws_markInt64SS.mono | apply laws_szInt64SS.mono | apply laws_toInt64SS.mono | apply spec_FieldEchelon.mono | exact LeO.refl _ | exact LeO.none _ | refine LeO.ite ?_ ?_ | refine LeO.bind ?_ (fun _ => ?_))
   | exact LeO.none _
   | refine LeO.ite ?_ ?_
   | refine LeO.bind ?_ (fun _ => ?_)
theorem laws_FnExactFieldEchelon.mono : ∀ a0 a1 a2 a3 k, LeO (laws_FnExactFieldEchelon.f k a0 a1 a2 a3) (laws_FnExactFieldEchelon.f (k + 1) a0 a1 a2 a3) := by
 intro a0 a1 a2 a3 k
 obtain ⟨ih0, ih1, ih2⟩ := laws_FnExactFieldEchelon.mono_l k
 unfold laws_FnExactFieldEchelon.f
 repeat' first
  | (with_reducible first | apply ih0 | apply ih1 | apply ih2 | apply impl_FieldEchelon.mono | apply laws_eqInt64SS.mono | apply laws_heldInt64SS.mono | apply laws_markInt64SS.mono | apply laws_szInt64SS.mono | apply laws_toInt64SS.mono | apply spec_FieldEchelon.mono | exact LeO.refl _ | exact LeO.none _ | refine LeO.ite ?_ ?_ | refine LeO.bind ?_ (fun _ => ?_))
  | exact LeO.none _
  | refine LeO.ite ?_ ?_
  | refine LeO.bind ?_ (fun _ => ?_)
theorem laws_FnExactFieldEchelon.calls (k : Nat) (a0_0 : Int) (a0_1 : Int) (a1 : Int) (A2 : Option Addr) (c2 : Nat) (l2 : List (List Int)) (r : Bool) (w : World) (hr2 : Kd.C (Kd.slice 2 (Kd.int .i64)) w A2 l2.length l2) (hc2 : l2.length ≤ c2) (h : laws_FnExactFieldEchelon.f k a0_0 a0_1 a1 l2 = some r) :
 Calls Try.prog 4 #[.agg #[.int .i64 a0_0, .int .i64 a0_1], .int .i64 a1, .slice A2 l2.length c2] w fun e w' => e = .returned (.bool r) ∧ Below w.heap.size w w' := by
 have hu23 := Try.underlying23
 have HR2 := Aq.mk hr2
 have HC2 := Aq.mk hc2
 clear hr2 hc2
 have HB := Aq.mk (Below.refl w.heap.size w)
 have H : ((laws_szInt64SS.f k l2 1048576).bind fun t321 => (if t321 < 0 then (some true) else ((laws_toField.f a0_0 a0_1).bind fun bt322 => ((laws_toInt64SS.f k l2).bind fun t324 => ((spec_FieldEchelon.f k bt322.1 bt322.2 a1 t324).bind fun bt327 => ((laws_toInt64SS.f k l2).bind fun t331 => ((laws_toField.f a0_0 a0_1).bind fun bt334 => ((impl_FieldEchelon.f k bt334.1 bt334.2 a1 t331).bind fun bt336 => ((laws_eqInt64SS.f k bt336.1 bt327.1).bind fun t340 => (if t340 = true then (laws_FnExactFieldEchelon.j0 k a1 l2 bt327.1 bt327.2 t331 bt336.1 bt336.2 (bt336.2 != bt327.2) a0_0 a0_1) else (laws_FnExactFieldEchelon.j0 k a1 l2 bt327.1 bt327.2 t331 bt336.1 bt336.2 true a0_0 a0_1))))))))))) = some r := h
 clear h
 obtain ⟨t321, A4, H⟩ := qBd H
 by_cases c5 : t321 < 0
 ·rw [if_pos c5] at H
  have c5b0 := decide_eq_true c5
  clear c5
  obtain rfl := Option.some.inj H
  go_enter Try.func4, Try.ntmps4
  go_wp2_with (first | ((with_reducible refine gQd (N := 3) rfl ?_); refine xQe ?hg (N := 3) ?hd (cs := #[.int .i64 a0_0, .int .i64 a0_1]) (t := 23) ?hr ?_; (case hd => rfl); (case hg => rfl); (case hr => exact tH); intro gb320 hg w6 hbox hb; refine qM4 (bQT tB hb) hbox (tZ w hg) (tZ w hg) ?_; clear HB; intro HB BK320 GW320 GE320; clear hb hbox hg) | ((with_reducible refine gQc (f := 8) rfl ?_); refine goesL_ (some 20) rfl rfl Try.func8 (by kernel_rfl) rfl #[.slice A2 l2.length c2, .int .i64 1048576] rfl tL ?_; (with_reducible refine (laws_szInt64SS.calls k _ _ l2 1048576 t321 _ ?s1 ?s2 A4.out).mono ?_); (case s1 => exact tC ((Kd.C_below HR2.out HB.out))); (case s2 => exact HC2.out); rintro e w' ⟨rfl, ⟨nd, rfl⟩⟩; refine ⟨_, rfl, ?_⟩))
  go_ret
  exact ⟨tE, tB⟩
 rw [if_neg c5] at H
 have c5b0 := decide_eq_false c5
 clear c5
 obtain ⟨⟨t322, t323⟩, A7, H⟩ := qBd H
 (try dsimp only at H)
 obtain ⟨t324, A8, H⟩ := qBd H
 obtain ⟨⟨t327, t330⟩, A9, H⟩ := qBd H
 (try dsimp only at H)
 obtain ⟨t331, A10, H⟩ := qBd H
 obtain ⟨⟨t334, t335⟩, A11, H⟩ := qBd H
 (try dsimp only at H)
 obtain ⟨⟨t336, t339⟩, A12, H⟩ := qBd H
 (try dsimp only at H)
 have HC13 := Aq.mk H
 clear H
 go_enter Try.func4, Try.ntmps4
 go_upto_region 8 with (first | ((with_reducible refine gQd (N := 3) rfl ?_); refine xQe ?hg (N := 3) ?hd (cs := #[.int .i64 a0_0, .int .i64 a0_1]) (t := 23) ?hr ?_; (case hd => rfl); (case hg => rfl); (case hr => exact tH); intro gb320 hg w14 hbox hb; refine qM4 (bQT tB hb) hbox (tZ w hg) (tZ w hg) ?_; clear HB; intro HB BK320 GW320 GE320; clear hb hbox hg) | ((with_reducible refine gQc (f := 8) rfl ?_); refine goesL_ (some 20) rfl rfl Try.func8 (by kernel_rfl) rfl #[.slice A2 l2.length c2, .int .i64 1048576] rfl tL ?_; (with_reducible refine (laws_szInt64SS.calls k _ _ l2 1048576 t321 _ ?s1 ?s2 A4.out).mono ?_); (case s1 => exact tC ((Kd.C_below HR2.out HB.out))); (case s2 => exact HC2.out); rintro e w' ⟨rfl, ⟨nd, rfl⟩⟩; refine ⟨_, rfl, ?_⟩; have hcz15_0 : w14.cell? ⟨gb320, 0, none⟩ = some (.int .i64 a0_0) := (kQC BK320.out 0).trans rfl; have hcz15_1 : w14.cell? ⟨gb320, 1, none⟩ = some (.int .i64 a0_1) := (kQC BK320.out 1).trans rfl; have hfz15_0 := kQF BK320.out 0; have hfz15_1 := kQF BK320.out 1) | ((with_reducible refine gQc (f := 10) rfl ?_); refine goesL_ (some 25) rfl rfl Try.func10 (by kernel_rfl) rfl #[.agg #[.int .i64 a0_0, .int .i64 a0_1]] rfl tL ?_; (with_reducible refine (laws_toField.calls a0_0 a0_1 t322 t323 _ A7.out).mono ?_); rintro e w16 ⟨rfl, hb⟩; refine ⟨_, rfl, ?_⟩; refine qM2 (tQ BK320.out hb) (bQT tB hb) ?_; clear BK320 HB; intro BK320 HB; (try clear hb); (try clear hb2); (try clear hk); (try clear hi)) | ((with_reducible refine gQc (f := 11) rfl ?_); refine goesL_ (some 28) rfl rfl Try.func11 (by kernel_rfl) rfl #[.slice A2 l2.length c2] rfl tL ?_; (with_reducible refine (laws_toInt64SS.calls k _ _ l2 t324 _ ?s1 ?s2 A8.out).mono ?_); (case s1 => exact tC ((Kd.C_below HR2.out HB.out))); (case s2 => exact HC2.out); rintro e w17 ⟨v325, rfl, ho0, hb⟩; refine ⟨_, rfl, ?_⟩; refine qM3 (Kd.N_lower (Kd.N_mono (ok' := fun k_ => k_ ≠ gb320) (Kd.S_N (Kd.S_bound ho0)) (fun k_ hk_ => (Kd.freshB (g := gb320) (o := .cells #[.int .i64 a0_0, .int .i64 a0_1] 23 (0, 0)) (tG BK320.out) k_ hk_.2.1))) (bQZ tB)) (tQ BK320.out hb) (bQT tB hb) ?_; clear BK320 HB; intro HO326 BK320 HB; (try clear hb); (try clear hb2); (try clear hk); (try clear hi); (try clear ho0); obtain ⟨Ao18, co18, eo18⟩ := Kd.N_slice HO326.out; subst eo18) | ((with_reducible refine gQc (f := 14) rfl ?_); refine goesL_ (some 29) rfl rfl Try.func14 (by kernel_rfl) rfl #[.agg #[.int .i64 t322, .int .i64 t323], .int .i64 a1, .slice Ao18 t324.length co18] rfl tL ?_; (with_reducible refine (spec_FieldEchelon.calls k t322 t323 a1 _ _ t324 t327 t330 _ ?s1 ?s2 A9.out).mono ?_); (case s1 => exact tC ((Kd.N_reads' HO326.out).2.2)); (case s2 => exact (Kd.N_reads' HO326.out).2.1); rintro e w19 ⟨v328, rfl, ho0, hb⟩; refine ⟨_, rfl, ?_⟩; refine qM4 (Kd.N_elder' (by (with_reducible repeat (first | apply Kd.N_alloc | apply Kd.N_drewN | apply Kd.N_drew)); exact HO326.out) (Kd.N_base ho0) hb) (Kd.N_lower (Kd.N_mono (ok' := fun k_ => some k_ ≠ (.slice Ao18 t324.length co18 : Value).ownBlock ∧ k_ ≠ gb320) ho0 (fun k_ hk_ => ⟨(Kd.fresh' (Kd.N_lt (by (with_reducible repeat (first | apply Kd.N_alloc | apply Kd.N_drewN | apply Kd.N_drew)); exact HO326.out)) k_ hk_), (Kd.freshB (g := gb320) (o := .cells #[.int .i64 a0_0, .int .i64 a0_1] 23 (0, 0)) (tG BK320.out) k_ hk_)⟩)) (bQZ tB)) (tQ BK320.out hb) (bQT tB hb) ?_; clear HO326 BK320 HB; intro HO326 HO329 BK320 HB; (try clear hb); (try clear hb2); (try clear hk); (try clear hi); (try clear ho0)) | ((with_reducible refine gQc (f := 11) rfl ?_); refine goesL_ (some 33) rfl rfl Try.func11 (by kernel_rfl) rfl #[.slice A2 l2.length c2] rfl tL ?_; (with_reducible refine (laws_toInt64SS.calls k _ _ l2 t331 _ ?s1 ?s2 A10.out).mono ?_); (case s1 => exact tC ((Kd.C_below HR2.out HB.out))); (case s2 => exact HC2.out); rintro e w20 ⟨v332, rfl, ho0, hb⟩; refine ⟨_, rfl, ?_⟩; obtain ⟨n3, hn3, gh320, gs6, gs4⟩ := ghost4 (b := w.heap.size) ho0 hb (by (with_reducible repeat (first | apply Kd.N_alloc | apply Kd.N_drewN | apply Kd.N_drew)); exact HO329.out) (blk_lt (g := gb320) (o := .cells #[.int .i64 a0_0, .int .i64 a0_1] 23 (0, 0)) (tG BK320.out)) (bQZ tB); have n0_ := Aq.mk (Kd.N_elder' (by (with_reducible repeat (first | apply Kd.N_alloc | apply Kd.N_drewN | apply Kd.N_drew)); exact HO326.out) (Kd.S_base ho0) hb); have n1_ := Aq.mk gs6; have n2_ := Aq.mk gs4; have gb4 := Below.refl w20.heap.size w20; have GB4 := Aq.mk gb4; have HN3 := Aq.mk hn3; have GH320 := Aq.mk gh320; clear hn3 gb4 gh320; have n3_ := Aq.mk (tQ BK320.out hb); have n4_ := Aq.mk (bQT tB hb); clear gs6 gs4; clear HO326; clear HO329; clear BK320; clear HB; have HO326 := n0_; have HO329 := n1_; have HO333 := n2_; have BK320 := n3_; have HB := n4_; clear n0_ n1_ n2_ n3_ n4_; (try clear hb); (try clear hb2); (try clear hk); (try clear hi); (try clear ho0); have hcz21_0 : w20.cell? ⟨gb320, 0, none⟩ = some (.int .i64 a0_0) := (kQC BK320.out 0).trans rfl; have hcz21_1 : w20.cell? ⟨gb320, 1, none⟩ = some (.int .i64 a0_1) := (kQC BK320.out 1).trans rfl; have hfz21_0 := kQF BK320.out 0; have hfz21_1 := kQF BK320.out 1) | ((with_reducible refine gQc (f := 10) rfl ?_); refine goesL_ (some 36) rfl rfl Try.func10 (by kernel_rfl) rfl #[.agg #[.int .i64 a0_0, .int .i64 a0_1]] rfl tL ?_; (with_reducible refine (laws_toField.calls a0_0 a0_1 t334 t335 _ A11.out).mono ?_); rintro e w22 ⟨rfl, hb⟩; refine ⟨_, rfl, ?_⟩; have n0_ := Aq.mk (Kd.N_below (by (with_reducible repeat (first | apply Kd.N_alloc | apply Kd.N_drewN | apply Kd.N_drew)); exact HO326.out) hb); have n1_ := Aq.mk (Kd.N_below (by (with_reducible repeat (first | apply Kd.N_alloc | apply Kd.N_drewN | apply Kd.N_drew)); exact HO329.out) hb); have n2_ := Aq.mk (Kd.S_below (by (with_reducible repeat (first | apply Kd.S_alloc | apply Kd.S_drewN | apply Kd.S_drew)); exact HO333.out) hb); have n3_ := Aq.mk (tQ BK320.out hb); have n4_ := Aq.mk (bQT tB hb); have gq_ := Aq.mk (bQT (by repeat (first | (with_reducible first | exact GB4.out | apply bQA | apply bQN | apply bQ1) | exact GB4.out)) hb); clear GB4; have GB4 := gq_; clear gq_; clear HO326; clear HO329; clear HO333; clear BK320; clear HB; have HO326 := n0_; have HO329 := n1_; have HO333 := n2_; have BK320 := n3_; have HB := n4_; clear n0_ n1_ n2_ n3_ n4_; (try clear hb); (try clear hb2); (try clear hk); (try clear hi); obtain ⟨Ao23, co23, eo23⟩ := Kd.S_slice HO333.out; subst eo23) | ((with_reducible refine gQc (f := 15) rfl ?_); refine goesL_ (some 39) rfl rfl Try.func15 (by kernel_rfl) rfl #[.agg #[.int .i64 t334, .int .i64 t335], .int .i64 a1, .slice Ao23 t331.length co23] rfl tL ?_; (with_reducible refine (impl_FieldEchelon.calls k t334 t335 a1 _ _ t331 t336 t339 _ ?s1 ?s2 A12.out).mono ?_); (case s1 => exact tC ((Kd.S_reads' HO333.out).2.2)); (case s2 => exact (Kd.S_reads' HO333.out).2.1); rintro e w24 ⟨v337, rfl, ho0, hb⟩; refine ⟨_, rfl, ?_⟩; have n0_ := Aq.mk (Kd.N_elder' (by (with_reducible repeat (first | apply Kd.N_alloc | apply Kd.N_drewN | apply Kd.N_drew)); exact HO326.out) (Kd.S_base ho0) hb); have n1_ := Aq.mk (Kd.N_below (by (with_reducible repeat (first | apply Kd.N_alloc | apply Kd.N_drewN | apply Kd.N_drew)); exact HO329.out) hb); have n2_ := Aq.mk (Kd.S_below (by (with_reducible repeat (first | apply Kd.S_alloc | apply Kd.S_drewN | apply Kd.S_drew)); exact HO333.out) hb); have n3_ := Aq.mk (Kd.S_lower (Kd.S_mono (Kd.S_bound ho0) (ok' := (fun k_ => w20.heap.size ≤ k_)) (fun k_ hk_ => Nat.le_trans (bQZ (by repeat (first | (with_reducible first | exact GB4.out | apply bQA | apply bQN | apply bQ1) | exact GB4.out))) hk_.2.1)) (bQZ tB)); have n4_ := Aq.mk (tQ BK320.out hb); have n5_ := Aq.mk (bQT tB hb); have gq_ := Aq.mk (bQT (by repeat (first | (with_reducible first | exact GB4.out | apply bQA | apply bQN | apply bQ1) | exact GB4.out)) hb); clear GB4; have GB4 := gq_; clear gq_; clear HO326; clear HO329; clear HO333; clear BK320; clear HB; have HO326 := n0_; have HO329 := n1_; have HO333 := n2_; have HO338 := n3_; have BK320 := n4_; have HB := n5_; clear n0_ n1_ n2_ n3_ n4_ n5_; (try clear hb); (try clear hb2); (try clear hk); (try clear hi); (try clear ho0)))
 (try simp only [Act.put, qSa, qSb, qSc])
 go_cut [50] (fun v50 wc => ∃ (kq : Nat) (x50_12 : Bool), v50 = .bool x50_12 ∧ Aq (laws_FnExactFieldEchelon.j0 kq a1 l2 t327 t330 t331 t336 t339 x50_12 a0_0 a0_1 = some r) ∧ Aq (kq ≤ k) ∧ Aq (Kd.N (Kd.slice 2 (Kd.int .i64)) 38 wc w.heap.size (fun k_ => k_ < n3) v328 t327) ∧ Aq (Kd.S (Kd.slice 2 (Kd.int .i64)) 38 wc w.heap.size (fun k_ => n3 ≤ k_ ∧ k_ < w20.heap.size) (.slice Ao23 t331.length co23) t331) ∧ Aq (Kd.S (Kd.slice 2 (Kd.int .i64)) 38 wc w.heap.size (fun k_ => w20.heap.size ≤ k_) v337 t336) ∧ Aq (wc.heap[gb320]? = some (.cells #[.int .i64 a0_0, .int .i64 a0_1] 23 (0, 0))) ∧ Aq (Below w.heap.size w wc))
 case first =>
  have H := HC13.out
  clear HC13
  obtain ⟨t340, A25, H⟩ := qBd H
  by_cases c26 : t340 = true
  ·subst c26
   rw [if_pos rfl] at H
   replace H' := Aq.mk H
   clear H
   obtain ⟨Ao27, co27, eo27⟩ := Kd.S_slice HO338.out
   subst eo27
   obtain ⟨Ao28, co28, eo28⟩ := Kd.N_slice HO329.out
   subst eo28
   go_wp2_with (first | ((with_reducible refine gQc (f := 13) rfl ?_); refine goesL_ (some 44) rfl rfl Try.func13 (by kernel_rfl) rfl #[.slice Ao27 t336.length co27, .slice Ao28 t327.length co28] rfl tL ?_; (with_reducible refine (laws_eqInt64SS.calls k _ _ t336 _ _ t327 true _ ?s1 ?s2 ?s3 ?s4 A25.out).mono ?_); (case s1 => exact tC ((Kd.S_reads' HO338.out).2.2)); (case s2 => exact (Kd.S_reads' HO338.out).2.1); (case s3 => exact tC ((Kd.N_reads' HO329.out).2.2)); (case s4 => exact (Kd.N_reads' HO329.out).2.1); rintro e w' ⟨rfl, ⟨nd, rfl⟩⟩; refine ⟨_, rfl, ?_⟩))
   go_meet
   case rel => exact ⟨_, ((t339 != t330)), tS, H', ⟨tO⟩, ⟨by (with_reducible repeat (first | apply Kd.N_alloc | apply Kd.N_drewN | apply Kd.N_drew)); exact HO329.out⟩, ⟨by (with_reducible repeat (first | apply Kd.N_alloc | apply Kd.N_drewN | apply Kd.N_drew)); exact HO333.out⟩, ⟨by (with_reducible repeat (first | apply Kd.N_alloc | apply Kd.N_drewN | apply Kd.N_drew)); exact HO338.out⟩, ⟨tG BK320.out⟩, ⟨tB⟩⟩
  replace c26 := Bool.eq_false_iff.mpr c26
  subst c26
  rw [if_neg (show ¬ (false = true) by decide)] at H
  replace H' := Aq.mk H
  clear H
  obtain ⟨Ao29, co29, eo29⟩ := Kd.S_slice HO338.out
  subst eo29
  obtain ⟨Ao30, co30, eo30⟩ := Kd.N_slice HO329.out
  subst eo30
  go_wp2_with (first | ((with_reducible refine gQc (f := 13) rfl ?_); refine goesL_ (some 44) rfl rfl Try.func13 (by kernel_rfl) rfl #[.slice Ao29 t336.length co29, .slice Ao30 t327.length co30] rfl tL ?_; (with_reducible refine (laws_eqInt64SS.calls k _ _ t336 _ _ t327 false _ ?s1 ?s2 ?s3 ?s4 A25.out).mono ?_); (case s1 => exact tC ((Kd.S_reads' HO338.out).2.2)); (case s2 => exact (Kd.S_reads' HO338.out).2.1); (case s3 => exact tC ((Kd.N_reads' HO329.out).2.2)); (case s4 => exact (Kd.N_reads' HO329.out).2.1); rintro e w' ⟨rfl, ⟨nd, rfl⟩⟩; refine ⟨_, rfl, ?_⟩))
  go_meet
  case rel => exact ⟨_, (true), tS, H', ⟨tO⟩, ⟨by (with_reducible repeat (first | apply Kd.N_alloc | apply Kd.N_drewN | apply Kd.N_drew)); exact HO329.out⟩, ⟨by (with_reducible repeat (first | apply Kd.N_alloc | apply Kd.N_drewN | apply Kd.N_drew)); exact HO333.out⟩, ⟨by (with_reducible repeat (first | apply Kd.N_alloc | apply Kd.N_drewN | apply Kd.N_drew)); exact HO338.out⟩, ⟨tG BK320.out⟩, ⟨tB⟩⟩
 clear HC13
 try clear c2
 try clear c5
 try clear c5b0
 try clear c26
 try clear hcz15_0
 try clear hcz15_1
 try clear hcz21_0
 try clear hcz21_1
 try clear hfz15_0
 try clear hfz15_1
 try clear hfz21_0
 try clear hfz21_1
 obtain ⟨kq, x50_12, rfl, HA, HJ12, HO_8, HO_10, HO_11, BK320, HB⟩ := hcut
 cases kq with
 | zero => exact absurd HA.out (by simp [laws_FnExactFieldEchelon.j0])
 | succ kj12 =>
  have H := HA.out
  clear HA
  simp only [laws_FnExactFieldEchelon.j0] at H
  by_cases c31 : x50_12 = true
  ·subst c31
   rw [if_pos rfl] at H
   obtain rfl := Option.some.inj H
   go_wp2
   go_ret
   exact ⟨tE, tB⟩
  replace c31 := Bool.eq_false_iff.mpr c31
  subst c31
  rw [if_neg (show ¬ (false = true) by decide)] at H
  obtain ⟨t341, A32, H⟩ := qBd H
  obtain ⟨t344, A33, H⟩ := qBd H
  by_cases c34 : t344 = true
  rotate_left
  ·replace c34 := Bool.eq_false_iff.mpr c34
   subst c34
   rw [if_neg (show ¬ (false = true) by decide)] at H
   obtain rfl := Option.some.inj H
   go_wp2_with (first | ((with_reducible refine gQc (f := 11) rfl ?_); refine goesL_ (some 53) rfl rfl Try.func11 (by kernel_rfl) rfl #[.slice A2 l2.length c2] rfl tL ?_; (with_reducible refine (laws_toInt64SS.calls kj12 _ _ l2 t341 _ ?s1 ?s2 A32.out).mono ?_); (case s1 => exact tC ((Kd.C_below HR2.out HB.out))); (case s2 => exact HC2.out); rintro e w77 ⟨v342, rfl, ho0, hb⟩; refine ⟨_, rfl, ?_⟩; refine qM6 (Kd.N_below (by (with_reducible repeat (first | apply Kd.N_alloc | apply Kd.N_drewN | apply Kd.N_drew)); exact HO_8.out) hb) (Kd.S_below (by (with_reducible repeat (first | apply Kd.S_alloc | apply Kd.S_drewN | apply Kd.S_drew)); exact HO_10.out) hb) (Kd.S_below (by (with_reducible repeat (first | apply Kd.S_alloc | apply Kd.S_drewN | apply Kd.S_drew)); exact HO_11.out) hb) (Kd.N_lower (Kd.N_mono (ok' := fun k_ => some k_ ≠ (v328 : Value).ownBlock ∧ some k_ ≠ (.slice Ao23 t331.length co23 : Value).ownBlock ∧ some k_ ≠ (v337 : Value).ownBlock ∧ k_ ≠ gb320) (Kd.S_N (Kd.S_bound ho0)) (fun k_ hk_ => ⟨(Kd.fresh' (Kd.N_lt (by (with_reducible repeat (first | apply Kd.N_alloc | apply Kd.N_drewN | apply Kd.N_drew)); exact HO_8.out)) k_ hk_.2.1), (Kd.fresh' (Kd.S_lt (by (with_reducible repeat (first | apply Kd.S_alloc | apply Kd.S_drewN | apply Kd.S_drew)); exact HO_10.out)) k_ hk_.2.1), (Kd.fresh' (Kd.S_lt (by (with_reducible repeat (first | apply Kd.S_alloc | apply Kd.S_drewN | apply Kd.S_drew)); exact HO_11.out)) k_ hk_.2.1), (Kd.freshB (g := gb320) (o := .cells #[.int .i64 a0_0, .int .i64 a0_1] 23 (0, 0)) (tG BK320.out) k_ hk_.2.1)⟩)) (bQZ tB)) (tQ BK320.out hb) (bQT tB hb) ?_; clear HO_8 HO_10 HO_11 BK320 HB; intro HO_8 HO_10 HO_11 HO343 BK320 HB; (try clear hb); (try clear hb2); (try clear hk); (try clear hi); (try clear ho0); obtain ⟨Ao78, co78, eo78⟩ := Kd.N_slice HO343.out; subst eo78) | ((with_reducible refine gQc (f := 13) rfl ?_); refine goesL_ (some 54) rfl rfl Try.func13 (by kernel_rfl) rfl #[.slice Ao23 t331.length co23, .slice Ao78 t341.length co78] rfl tL ?_; (with_reducible refine (laws_eqInt64SS.calls kj12 _ _ t331 _ _ t341 false _ ?s1 ?s2 ?s3 ?s4 A33.out).mono ?_); (case s1 => exact tC ((Kd.S_reads' HO_10.out).2.2)); (case s2 => exact (Kd.S_reads' HO_10.out).2.1); (case s3 => exact tC ((Kd.N_reads' HO343.out).2.2)); (case s4 => exact (Kd.N_reads' HO343.out).2.1); rintro e w' ⟨rfl, ⟨nd, rfl⟩⟩; refine ⟨_, rfl, ?_⟩))
   go_ret
   exact ⟨tE, tB⟩
  subst c34
  rw [if_pos rfl] at H
  obtain ⟨⟨t345, tm1⟩, A35, H⟩ := qBd H
  (try dsimp only at H)
  have HC36 := Aq.mk H
  clear H
  go_upto_region 14 with (first | ((with_reducible refine gQc (f := 11) rfl ?_); refine goesL_ (some 53) rfl rfl Try.func11 (by kernel_rfl) rfl #[.slice A2 l2.length c2] rfl tL ?_; (with_reducible refine (laws_toInt64SS.calls kj12 _ _ l2 t341 _ ?s1 ?s2 A32.out).mono ?_); (case s1 => exact tC ((Kd.C_below HR2.out HB.out))); (case s2 => exact HC2.out); rintro e w37 ⟨v342, rfl, ho0, hb⟩; refine ⟨_, rfl, ?_⟩; refine qM6 (Kd.N_below (by (with_reducible repeat (first | apply Kd.N_alloc | apply Kd.N_drewN | apply Kd.N_drew)); exact HO_8.out) hb) (Kd.S_below (by (with_reducible repeat (first | apply Kd.S_alloc | apply Kd.S_drewN | apply Kd.S_drew)); exact HO_10.out) hb) (Kd.S_below (by (with_reducible repeat (first | apply Kd.S_alloc | apply Kd.S_drewN | apply Kd.S_drew)); exact HO_11.out) hb) (Kd.N_lower (Kd.N_mono (ok' := fun k_ => some k_ ≠ (v328 : Value).ownBlock ∧ some k_ ≠ (.slice Ao23 t331.length co23 : Value).ownBlock ∧ some k_ ≠ (v337 : Value).ownBlock ∧ k_ ≠ gb320) (Kd.S_N (Kd.S_bound ho0)) (fun k_ hk_ => ⟨(Kd.fresh' (Kd.N_lt (by (with_reducible repeat (first | apply Kd.N_alloc | apply Kd.N_drewN | apply Kd.N_drew)); exact HO_8.out)) k_ hk_.2.1), (Kd.fresh' (Kd.S_lt (by (with_reducible repeat (first | apply Kd.S_alloc | apply Kd.S_drewN | apply Kd.S_drew)); exact HO_10.out)) k_ hk_.2.1), (Kd.fresh' (Kd.S_lt (by (with_reducible repeat (first | apply Kd.S_alloc | apply Kd.S_drewN | apply Kd.S_drew)); exact HO_11.out)) k_ hk_.2.1), (Kd.freshB (g := gb320) (o := .cells #[.int .i64 a0_0, .int .i64 a0_1] 23 (0, 0)) (tG BK320.out) k_ hk_.2.1)⟩)) (bQZ tB)) (tQ BK320.out hb) (bQT tB hb) ?_; clear HO_8 HO_10 HO_11 BK320 HB; intro HO_8 HO_10 HO_11 HO343 BK320 HB; (try clear hb); (try clear hb2); (try clear hk); (try clear hi); (try clear ho0); obtain ⟨Ao38, co38, eo38⟩ := Kd.N_slice HO343.out; subst eo38) | ((with_reducible refine gQc (f := 13) rfl ?_); refine goesL_ (some 54) rfl rfl Try.func13 (by kernel_rfl) rfl #[.slice Ao23 t331.length co23, .slice Ao38 t341.length co38] rfl tL ?_; (with_reducible refine (laws_eqInt64SS.calls kj12 _ _ t331 _ _ t341 true _ ?s1 ?s2 ?s3 ?s4 A33.out).mono ?_); (case s1 => exact tC ((Kd.S_reads' HO_10.out).2.2)); (case s2 => exact (Kd.S_reads' HO_10.out).2.1); (case s3 => exact tC ((Kd.N_reads' HO343.out).2.2)); (case s4 => exact (Kd.N_reads' HO343.out).2.1); rintro e w' ⟨rfl, ⟨nd, rfl⟩⟩; refine ⟨_, rfl, ?_⟩) | ((with_reducible refine gQc (f := 16) rfl ?_); refine goesL_ (some 58) rfl rfl Try.func16 (by kernel_rfl) rfl #[.slice Ao23 t331.length co23, .int .i64 1] rfl tL ?_; (with_reducible refine (laws_markInt64SS.calls kj12 (fun k_ => n3 ≤ k_ ∧ k_ < w20.heap.size) _ _ t331 1 t345 tm1 w _ tB (by (with_reducible repeat (first | apply Kd.S_alloc | apply Kd.S_drewN | apply Kd.S_drew)); exact HO_10.out) A35.out).mono ?_); rintro e w39 ⟨rfl, hs4, hl4, hb, hkp⟩; refine ⟨_, rfl, ?_⟩; have n0_ := Aq.mk (Kd.N_kept (by (with_reducible repeat (first | apply Kd.N_alloc | apply Kd.N_drewN | apply Kd.N_drew)); exact HO_8.out) hkp (fun k_ h_ hs_ => by omega)); have n2_ := Aq.mk (Kd.S_kept (by (with_reducible repeat (first | apply Kd.S_alloc | apply Kd.S_drewN | apply Kd.S_drew)); exact HO_11.out) hkp (fun k_ h_ hs_ => by omega)); have n4_ := Aq.mk (blk_kept (tG BK320.out) hkp (fun h_ => by have := GH320.out; omega)); have n5_ := Aq.mk hb; clear HO_8; clear HO_10; clear HO_11; clear HO343; clear BK320; clear HB; have HO_8 := n0_; have HO_11 := n2_; have BK320 := n4_; have HB := n5_; clear n0_ n2_ n4_ n5_; clear hs4 hl4 hb hkp))
  (try simp only [Act.put, qSa, qSb, qSc])
  go_cut [71] (fun v71 wc => ∃ (kq : Nat) (x71_35 : Bool), v71 = .bool x71_35 ∧ Aq (laws_FnExactFieldEchelon.j1 kq a1 l2 t327 t330 t336 x71_35 a0_0 a0_1 = some r) ∧ Aq (kq ≤ kj12) ∧ Aq (Kd.N (Kd.slice 2 (Kd.int .i64)) 38 wc w.heap.size (fun k_ => k_ < n3) v328 t327) ∧ Aq (Kd.S (Kd.slice 2 (Kd.int .i64)) 38 wc w.heap.size (fun k_ => w20.heap.size ≤ k_) v337 t336) ∧ Aq (wc.heap[gb320]? = some (.cells #[.int .i64 a0_0, .int .i64 a0_1] 23 (0, 0))) ∧ Aq (Below w.heap.size w wc))
  case first =>
   have H := HC36.out
   clear HC36
   by_cases c40 : t345 < 0
   ·rw [if_pos c40] at H
    have c40b0 := decide_eq_true c40
    clear c40
    (first | rw [c40b0] | (simp only [i64_w, i32_w]; rw [c40b0]) | skip)
    replace H' := Aq.mk H
    clear H
    go_wp2
    go_meet
    case rel => exact ⟨_, (true), tS, H', ⟨by have := HJ12.out; first | omega | exact Nat.le_refl _⟩, ⟨by (with_reducible repeat (first | apply Kd.N_alloc | apply Kd.N_drewN | apply Kd.N_drew)); exact HO_8.out⟩, ⟨by (with_reducible repeat (first | apply Kd.N_alloc | apply Kd.N_drewN | apply Kd.N_drew)); exact HO_11.out⟩, ⟨tG BK320.out⟩, ⟨tB⟩⟩
   rw [if_neg c40] at H
   have c40b0 := decide_eq_false c40
   clear c40
   (first | rw [c40b0] | (simp only [i64_w, i32_w]; rw [c40b0]) | skip)
   obtain ⟨t346, A41, H⟩ := qBd H
   by_cases c42 : t346 = true
   ·subst c42
    rw [if_pos rfl] at H
    replace H' := Aq.mk H
    clear H
    obtain ⟨Ao43, co43, eo43⟩ := Kd.S_slice HO_11.out
    subst eo43
    obtain ⟨Ao44, co44, eo44⟩ := Kd.N_slice HO_8.out
    subst eo44
    go_wp2_with (first | (go_at_call 13; (with_reducible refine (laws_eqInt64SS.calls kj12 _ _ t336 _ _ t327 true _ ?s1 ?s2 ?s3 ?s4 A41.out).mono ?_); (case s1 => exact tC ((Kd.S_reads' HO_11.out).2.2)); (case s2 => exact (Kd.S_reads' HO_11.out).2.1); (case s3 => exact tC ((Kd.N_reads' HO_8.out).2.2)); (case s4 => exact (Kd.N_reads' HO_8.out).2.1); rintro e w' ⟨rfl, ⟨nd, rfl⟩⟩))
    go_meet
    case rel => exact ⟨_, ((t339 != t330)), tS, H', ⟨by have := HJ12.out; first | omega | exact Nat.le_refl _⟩, ⟨by (with_reducible repeat (first | apply Kd.N_alloc | apply Kd.N_drewN | apply Kd.N_drew)); exact HO_8.out⟩, ⟨by (with_reducible repeat (first | apply Kd.N_alloc | apply Kd.N_drewN | apply Kd.N_drew)); exact HO_11.out⟩, ⟨tG BK320.out⟩, ⟨tB⟩⟩
   replace c42 := Bool.eq_false_iff.mpr c42
   subst c42
   rw [if_neg (show ¬ (false = true) by decide)] at H
   replace H' := Aq.mk H
   clear H
   obtain ⟨Ao45, co45, eo45⟩ := Kd.S_slice HO_11.out
   subst eo45
   obtain ⟨Ao46, co46, eo46⟩ := Kd.N_slice HO_8.out
   subst eo46
   go_wp2_with (first | (go_at_call 13; (with_reducible refine (laws_eqInt64SS.calls kj12 _ _ t336 _ _ t327 false _ ?s1 ?s2 ?s3 ?s4 A41.out).mono ?_); (case s1 => exact tC ((Kd.S_reads' HO_11.out).2.2)); (case s2 => exact (Kd.S_reads' HO_11.out).2.1); (case s3 => exact tC ((Kd.N_reads' HO_8.out).2.2)); (case s4 => exact (Kd.N_reads' HO_8.out).2.1); rintro e w' ⟨rfl, ⟨nd, rfl⟩⟩))
   go_meet
   case rel => exact ⟨_, (true), tS, H', ⟨by have := HJ12.out; first | omega | exact Nat.le_refl _⟩, ⟨by (with_reducible repeat (first | apply Kd.N_alloc | apply Kd.N_drewN | apply Kd.N_drew)); exact HO_8.out⟩, ⟨by (with_reducible repeat (first | apply Kd.N_alloc | apply Kd.N_drewN | apply Kd.N_drew)); exact HO_11.out⟩, ⟨tG BK320.out⟩, ⟨tB⟩⟩
  clear HC36
  try clear c2
  try clear c5
  try clear c5b0
  try clear c26
  try clear c31
  try clear c34
  try clear c40
  try clear c40b0
  try clear c42
  try clear hcz15_0
  try clear hcz15_1
  try clear hcz21_0
  try clear hcz21_1
  try clear hfz15_0
  try clear hfz15_1
  try clear hfz21_0
  try clear hfz21_1
  obtain ⟨kq, x71_35, rfl, HA, HJ35, HO_8, HO_11, BK320, HB⟩ := hcut
  cases kq with
  | zero => exact absurd HA.out (by simp [laws_FnExactFieldEchelon.j1])
  | succ kj35 =>
   have H := HA.out
   clear HA
   simp only [laws_FnExactFieldEchelon.j1] at H
   by_cases c47 : x71_35 = true
   ·subst c47
    rw [if_pos rfl] at H
    obtain rfl := Option.some.inj H
    go_wp2
    go_ret
    exact ⟨tE, tB⟩
   replace c47 := Bool.eq_false_iff.mpr c47
   subst c47
   rw [if_neg (show ¬ (false = true) by decide)] at H
   obtain ⟨⟨t347, tm2⟩, A48, H⟩ := qBd H
   (try dsimp only at H)
   obtain ⟨t348, A49, H⟩ := qBd H
   by_cases c50 : t348 < 0
   ·rw [if_pos c50] at H
    have c50b0 := decide_eq_true c50
    clear c50
    obtain rfl := Option.some.inj H
    obtain ⟨Ao51, co51, eo51⟩ := Kd.S_slice HO_11.out
    subst eo51
    go_wp2_with (first | ((with_reducible refine gQc (f := 16) rfl ?_); refine goesL_ (some 74) rfl rfl Try.func16 (by kernel_rfl) rfl #[.slice Ao51 t336.length co51, .int .i64 1] rfl tL ?_; (with_reducible refine (laws_markInt64SS.calls kj35 (fun k_ => w20.heap.size ≤ k_) _ _ t336 1 t347 tm2 w _ tB (by (with_reducible repeat (first | apply Kd.S_alloc | apply Kd.S_drewN | apply Kd.S_drew)); exact HO_11.out) A48.out).mono ?_); rintro e w52 ⟨rfl, hs4, hl4, hb, hkp⟩; refine ⟨_, rfl, ?_⟩; rw [← hl4] at hs4; (try simp only [← hl4]); refine qM4 (Kd.N_kept (by (with_reducible repeat (first | apply Kd.N_alloc | apply Kd.N_drewN | apply Kd.N_drew)); exact HO_8.out) hkp (fun k_ h_ hs_ => by have := HN3.out; omega)) hs4 (blk_kept (tG BK320.out) hkp (fun h_ => by have := GH320.out; have := HN3.out; omega)) hb ?_; clear HO_8 HO_11 BK320 HB; intro HO_8 HO_11 BK320 HB; clear hs4 hl4 hb hkp) | ((with_reducible refine gQc (f := 17) rfl ?_); refine goesL_ (some 77) rfl rfl Try.func17 (by kernel_rfl) rfl #[.slice Ao51 tm2.length co51, .int .i64 1] rfl tL ?_; (with_reducible refine (laws_heldInt64SS.calls kj35 _ _ tm2 1 t348 _ ?s1 ?s2 A49.out).mono ?_); (case s1 => exact tC ((Kd.S_reads' HO_11.out).2.2)); (case s2 => exact (Kd.S_reads' HO_11.out).2.1); rintro e w' ⟨rfl, ⟨nd, rfl⟩⟩; refine ⟨_, rfl, ?_⟩))
    go_ret
    exact ⟨tE, tB⟩
   rw [if_neg c50] at H
   have c50b0 := decide_eq_false c50
   clear c50
   by_cases c53 : t348 = t347
   rotate_left
   ·rw [if_neg c53] at H
    have c53b0 := beq_eq_false_iff_ne.mpr c53
    have c53b1 := bne_iff_ne.mpr c53
    obtain rfl := Option.some.inj H
    obtain ⟨Ao75, co75, eo75⟩ := Kd.S_slice HO_11.out
    subst eo75
    go_wp2_with (first | ((with_reducible refine gQc (f := 16) rfl ?_); refine goesL_ (some 74) rfl rfl Try.func16 (by kernel_rfl) rfl #[.slice Ao75 t336.length co75, .int .i64 1] rfl tL ?_; (with_reducible refine (laws_markInt64SS.calls kj35 (fun k_ => w20.heap.size ≤ k_) _ _ t336 1 t347 tm2 w _ tB (by (with_reducible repeat (first | apply Kd.S_alloc | apply Kd.S_drewN | apply Kd.S_drew)); exact HO_11.out) A48.out).mono ?_); rintro e w76 ⟨rfl, hs4, hl4, hb, hkp⟩; refine ⟨_, rfl, ?_⟩; rw [← hl4] at hs4; (try simp only [← hl4]); refine qM4 (Kd.N_kept (by (with_reducible repeat (first | apply Kd.N_alloc | apply Kd.N_drewN | apply Kd.N_drew)); exact HO_8.out) hkp (fun k_ h_ hs_ => by have := HN3.out; omega)) hs4 (blk_kept (tG BK320.out) hkp (fun h_ => by have := GH320.out; have := HN3.out; omega)) hb ?_; clear HO_8 HO_11 BK320 HB; intro HO_8 HO_11 BK320 HB; clear hs4 hl4 hb hkp) | ((with_reducible refine gQc (f := 17) rfl ?_); refine goesL_ (some 77) rfl rfl Try.func17 (by kernel_rfl) rfl #[.slice Ao75 tm2.length co75, .int .i64 1] rfl tL ?_; (with_reducible refine (laws_heldInt64SS.calls kj35 _ _ tm2 1 t348 _ ?s1 ?s2 A49.out).mono ?_); (case s1 => exact tC ((Kd.S_reads' HO_11.out).2.2)); (case s2 => exact (Kd.S_reads' HO_11.out).2.1); rintro e w' ⟨rfl, ⟨nd, rfl⟩⟩; refine ⟨_, rfl, ?_⟩))
    go_ret
    exact ⟨tE, tB⟩
   rw [if_pos c53] at H
   have c53b0 := beq_iff_eq.mpr c53
   have c53b1 := bne_eq_false_iff_eq.mpr c53
   clear c53
   obtain ⟨⟨t349, t350⟩, A54, H⟩ := qBd H
   (try dsimp only at H)
   obtain ⟨t351, A55, H⟩ := qBd H
   obtain ⟨⟨t354, t357⟩, A56, H⟩ := qBd H
   (try dsimp only at H)
   have HC57 := Aq.mk H
   clear H
   obtain ⟨Ao58, co58, eo58⟩ := Kd.S_slice HO_11.out
   subst eo58
   go_upto_region 25 with (first | ((with_reducible refine gQc (f := 16) rfl ?_); refine goesL_ (some 74) rfl rfl Try.func16 (by kernel_rfl) rfl #[.slice Ao58 t336.length co58, .int .i64 1] rfl tL ?_; (with_reducible refine (laws_markInt64SS.calls kj35 (fun k_ => w20.heap.size ≤ k_) _ _ t336 1 t347 tm2 w _ tB (by (with_reducible repeat (first | apply Kd.S_alloc | apply Kd.S_drewN | apply Kd.S_drew)); exact HO_11.out) A48.out).mono ?_); rintro e w59 ⟨rfl, hs4, hl4, hb, hkp⟩; refine ⟨_, rfl, ?_⟩; rw [← hl4] at hs4; (try simp only [← hl4]); refine qM4 (Kd.N_kept (by (with_reducible repeat (first | apply Kd.N_alloc | apply Kd.N_drewN | apply Kd.N_drew)); exact HO_8.out) hkp (fun k_ h_ hs_ => by have := HN3.out; omega)) hs4 (blk_kept (tG BK320.out) hkp (fun h_ => by have := GH320.out; have := HN3.out; omega)) hb ?_; clear HO_8 HO_11 BK320 HB; intro HO_8 HO_11 BK320 HB; clear hs4 hl4 hb hkp) | ((with_reducible refine gQc (f := 17) rfl ?_); refine goesL_ (some 77) rfl rfl Try.func17 (by kernel_rfl) rfl #[.slice Ao58 tm2.length co58, .int .i64 1] rfl tL ?_; (with_reducible refine (laws_heldInt64SS.calls kj35 _ _ tm2 1 t348 _ ?s1 ?s2 A49.out).mono ?_); (case s1 => exact tC ((Kd.S_reads' HO_11.out).2.2)); (case s2 => exact (Kd.S_reads' HO_11.out).2.1); rintro e w' ⟨rfl, ⟨nd, rfl⟩⟩; refine ⟨_, rfl, ?_⟩; have hcz60_0 : w59.cell? ⟨gb320, 0, none⟩ = some (.int .i64 a0_0) := (kQC BK320.out 0).trans rfl; have hcz60_1 : w59.cell? ⟨gb320, 1, none⟩ = some (.int .i64 a0_1) := (kQC BK320.out 1).trans rfl; have hfz60_0 := kQF BK320.out 0; have hfz60_1 := kQF BK320.out 1) | ((with_reducible refine gQc (f := 10) rfl ?_); refine goesL_ (some 85) rfl rfl Try.func10 (by kernel_rfl) rfl #[.agg #[.int .i64 a0_0, .int .i64 a0_1]] rfl tL ?_; (with_reducible refine (laws_toField.calls a0_0 a0_1 t349 t350 _ A54.out).mono ?_); rintro e w61 ⟨rfl, hb⟩; refine ⟨_, rfl, ?_⟩; refine qM4 (Kd.N_below (by (with_reducible repeat (first | apply Kd.N_alloc | apply Kd.N_drewN | apply Kd.N_drew)); exact HO_8.out) hb) (Kd.S_below (by (with_reducible repeat (first | apply Kd.S_alloc | apply Kd.S_drewN | apply Kd.S_drew)); exact HO_11.out) hb) (tQ BK320.out hb) (bQT tB hb) ?_; clear HO_8 HO_11 BK320 HB; intro HO_8 HO_11 BK320 HB; (try clear hb); (try clear hb2); (try clear hk); (try clear hi)) | ((with_reducible refine gQc (f := 11) rfl ?_); refine goesL_ (some 88) rfl rfl Try.func11 (by kernel_rfl) rfl #[.slice A2 l2.length c2] rfl tL ?_; (with_reducible refine (laws_toInt64SS.calls kj35 _ _ l2 t351 _ ?s1 ?s2 A55.out).mono ?_); (case s1 => exact tC ((Kd.C_below HR2.out HB.out))); (case s2 => exact HC2.out); rintro e w62 ⟨v352, rfl, ho0, hb⟩; refine ⟨_, rfl, ?_⟩; refine qM5 (Kd.N_below (by (with_reducible repeat (first | apply Kd.N_alloc | apply Kd.N_drewN | apply Kd.N_drew)); exact HO_8.out) hb) (Kd.S_below (by (with_reducible repeat (first | apply Kd.S_alloc | apply Kd.S_drewN | apply Kd.S_drew)); exact HO_11.out) hb) (Kd.N_lower (Kd.N_mono (ok' := fun k_ => some k_ ≠ (v328 : Value).ownBlock ∧ some k_ ≠ (.slice Ao58 tm2.length co58 : Value).ownBlock ∧ k_ ≠ gb320) (Kd.S_N (Kd.S_bound ho0)) (fun k_ hk_ => ⟨(Kd.fresh' (Kd.N_lt (by (with_reducible repeat (first | apply Kd.N_alloc | apply Kd.N_drewN | apply Kd.N_drew)); exact HO_8.out)) k_ hk_.2.1), (Kd.fresh' (Kd.S_lt (by (with_reducible repeat (first | apply Kd.S_alloc | apply Kd.S_drewN | apply Kd.S_drew)); exact HO_11.out)) k_ hk_.2.1), (Kd.freshB (g := gb320) (o := .cells #[.int .i64 a0_0, .int .i64 a0_1] 23 (0, 0)) (tG BK320.out) k_ hk_.2.1)⟩)) (bQZ tB)) (tQ BK320.out hb) (bQT tB hb) ?_; clear HO_8 HO_11 BK320 HB; intro HO_8 HO_11 HO353 BK320 HB; (try clear hb); (try clear hb2); (try clear hk); (try clear hi); (try clear ho0); obtain ⟨Ao63, co63, eo63⟩ := Kd.N_slice HO353.out; subst eo63) | ((with_reducible refine gQc (f := 15) rfl ?_); refine goesL_ (some 89) rfl rfl Try.func15 (by kernel_rfl) rfl #[.agg #[.int .i64 t349, .int .i64 t350], .int .i64 a1, .slice Ao63 t351.length co63] rfl tL ?_; (with_reducible refine (impl_FieldEchelon.calls kj35 t349 t350 a1 _ _ t351 t354 t357 _ ?s1 ?s2 A56.out).mono ?_); (case s1 => exact tC ((Kd.N_reads' HO353.out).2.2)); (case s2 => exact (Kd.N_reads' HO353.out).2.1); rintro e w64 ⟨v355, rfl, ho0, hb⟩; refine ⟨_, rfl, ?_⟩; refine qM6 (Kd.N_below (by (with_reducible repeat (first | apply Kd.N_alloc | apply Kd.N_drewN | apply Kd.N_drew)); exact HO_8.out) hb) (Kd.S_below (by (with_reducible repeat (first | apply Kd.S_alloc | apply Kd.S_drewN | apply Kd.S_drew)); exact HO_11.out) hb) (Kd.N_elder' (by (with_reducible repeat (first | apply Kd.N_alloc | apply Kd.N_drewN | apply Kd.N_drew)); exact HO353.out) (Kd.S_base ho0) hb) (Kd.N_lower (Kd.N_mono (ok' := fun k_ => some k_ ≠ (v328 : Value).ownBlock ∧ some k_ ≠ (.slice Ao58 tm2.length co58 : Value).ownBlock ∧ some k_ ≠ (.slice Ao63 t351.length co63 : Value).ownBlock ∧ k_ ≠ gb320) (Kd.S_N (Kd.S_bound ho0)) (fun k_ hk_ => ⟨(Kd.fresh' (Kd.N_lt (by (with_reducible repeat (first | apply Kd.N_alloc | apply Kd.N_drewN | apply Kd.N_drew)); exact HO_8.out)) k_ hk_.2.1), (Kd.fresh' (Kd.S_lt (by (with_reducible repeat (first | apply Kd.S_alloc | apply Kd.S_drewN | apply Kd.S_drew)); exact HO_11.out)) k_ hk_.2.1), (Kd.fresh' (Kd.N_lt (by (with_reducible repeat (first | apply Kd.N_alloc | apply Kd.N_drewN | apply Kd.N_drew)); exact HO353.out)) k_ hk_.2.1), (Kd.freshB (g := gb320) (o := .cells #[.int .i64 a0_0, .int .i64 a0_1] 23 (0, 0)) (tG BK320.out) k_ hk_.2.1)⟩)) (bQZ tB)) (tQ BK320.out hb) (bQT tB hb) ?_; clear HO_8 HO_11 HO353 BK320 HB; intro HO_8 HO_11 HO353 HO356 BK320 HB; (try clear hb); (try clear hb2); (try clear hk); (try clear hi); (try clear ho0)))
   (try simp only [Act.put, qSa, qSb, qSc])
   go_cut [100] (fun v100 wc => ∃ (kq : Nat) (x100_56 : Bool), v100 = .bool x100_56 ∧ Aq (laws_FnExactFieldEchelon.j2 kq tm2 t347 x100_56 = some r) ∧ Aq (kq ≤ kj35) ∧ Aq (Kd.S (Kd.slice 2 (Kd.int .i64)) 38 wc w.heap.size (fun k_ => w20.heap.size ≤ k_) (.slice Ao58 tm2.length co58) tm2) ∧ Aq (wc.heap[gb320]? = some (.cells #[.int .i64 a0_0, .int .i64 a0_1] 23 (0, 0))) ∧ Aq (Below w.heap.size w wc))
   case first =>
    have H := HC57.out
    clear HC57
    obtain ⟨t358, A65, H⟩ := qBd H
    by_cases c66 : t358 = true
    ·subst c66
     rw [if_pos rfl] at H
     replace H' := Aq.mk H
     clear H
     obtain ⟨Ao67, co67, eo67⟩ := Kd.N_slice HO356.out
     subst eo67
     obtain ⟨Ao68, co68, eo68⟩ := Kd.N_slice HO_8.out
     subst eo68
     go_wp2_with (first | ((with_reducible refine gQc (f := 13) rfl ?_); refine goesL_ (some 94) rfl rfl Try.func13 (by kernel_rfl) rfl #[.slice Ao67 t354.length co67, .slice Ao68 t327.length co68] rfl tL ?_; (with_reducible refine (laws_eqInt64SS.calls kj35 _ _ t354 _ _ t327 true _ ?s1 ?s2 ?s3 ?s4 A65.out).mono ?_); (case s1 => exact tC ((Kd.N_reads' HO356.out).2.2)); (case s2 => exact (Kd.N_reads' HO356.out).2.1); (case s3 => exact tC ((Kd.N_reads' HO_8.out).2.2)); (case s4 => exact (Kd.N_reads' HO_8.out).2.1); rintro e w' ⟨rfl, ⟨nd, rfl⟩⟩; refine ⟨_, rfl, ?_⟩))
     go_meet
     case rel => exact ⟨_, ((t357 != t330)), tS, H', ⟨by have := HJ12.out; have := HJ35.out; first | omega | exact Nat.le_refl _⟩, ⟨by (with_reducible repeat (first | apply Kd.N_alloc | apply Kd.N_drewN | apply Kd.N_drew)); exact HO_11.out⟩, ⟨tG BK320.out⟩, ⟨tB⟩⟩
    replace c66 := Bool.eq_false_iff.mpr c66
    subst c66
    rw [if_neg (show ¬ (false = true) by decide)] at H
    replace H' := Aq.mk H
    clear H
    obtain ⟨Ao69, co69, eo69⟩ := Kd.N_slice HO356.out
    subst eo69
    obtain ⟨Ao70, co70, eo70⟩ := Kd.N_slice HO_8.out
    subst eo70
    go_wp2_with (first | ((with_reducible refine gQc (f := 13) rfl ?_); refine goesL_ (some 94) rfl rfl Try.func13 (by kernel_rfl) rfl #[.slice Ao69 t354.length co69, .slice Ao70 t327.length co70] rfl tL ?_; (with_reducible refine (laws_eqInt64SS.calls kj35 _ _ t354 _ _ t327 false _ ?s1 ?s2 ?s3 ?s4 A65.out).mono ?_); (case s1 => exact tC ((Kd.N_reads' HO356.out).2.2)); (case s2 => exact (Kd.N_reads' HO356.out).2.1); (case s3 => exact tC ((Kd.N_reads' HO_8.out).2.2)); (case s4 => exact (Kd.N_reads' HO_8.out).2.1); rintro e w' ⟨rfl, ⟨nd, rfl⟩⟩; refine ⟨_, rfl, ?_⟩))
    go_meet
    case rel => exact ⟨_, (true), tS, H', ⟨by have := HJ12.out; have := HJ35.out; first | omega | exact Nat.le_refl _⟩, ⟨by (with_reducible repeat (first | apply Kd.N_alloc | apply Kd.N_drewN | apply Kd.N_drew)); exact HO_11.out⟩, ⟨tG BK320.out⟩, ⟨tB⟩⟩
   clear HC57
   try clear c2
   try clear c5
   try clear c5b0
   try clear c26
   try clear c31
   try clear c34
   try clear c40
   try clear c40b0
   try clear c42
   try clear c47
   try clear c50
   try clear c50b0
   try clear c53
   try clear c53b0
   try clear c53b1
   try clear c66
   try clear hcz15_0
   try clear hcz15_1
   try clear hcz21_0
   try clear hcz21_1
   try clear hcz60_0
   try clear hcz60_1
   try clear hfz15_0
   try clear hfz15_1
   try clear hfz21_0
   try clear hfz21_1
   try clear hfz60_0
   try clear hfz60_1
   obtain ⟨kq, x100_56, rfl, HA, HJ56, HO_11, BK320, HB⟩ := hcut
   cases kq with
   | zero => exact absurd HA.out (by simp [laws_FnExactFieldEchelon.j2])
   | succ kj56 =>
    have H := HA.out
    clear HA
    simp only [laws_FnExactFieldEchelon.j2] at H
    by_cases c71 : x100_56 = true
    ·subst c71
     rw [if_pos rfl] at H
     obtain rfl := Option.some.inj H
     go_wp2
     go_ret
     exact ⟨tE, tB⟩
    replace c71 := Bool.eq_false_iff.mpr c71
    subst c71
    rw [if_neg (show ¬ (false = true) by decide)] at H
    obtain ⟨t359, A72, H⟩ := qBd H
    by_cases c73 : t359 < 0
    ·rw [if_pos c73] at H
     have c73b0 := decide_eq_true c73
     clear c73
     obtain rfl := Option.some.inj H
     go_wp2_with (first | ((with_reducible refine gQc (f := 17) rfl ?_); refine goesL_ (some 103) rfl rfl Try.func17 (by kernel_rfl) rfl #[.slice Ao58 tm2.length co58, .int .i64 1] rfl tL ?_; (with_reducible refine (laws_heldInt64SS.calls kj56 _ _ tm2 1 t359 _ ?s1 ?s2 A72.out).mono ?_); (case s1 => exact tC ((Kd.S_reads' HO_11.out).2.2)); (case s2 => exact (Kd.S_reads' HO_11.out).2.1); rintro e w' ⟨rfl, ⟨nd, rfl⟩⟩; refine ⟨_, rfl, ?_⟩))
     go_ret
     exact ⟨tE, tB⟩
    rw [if_neg c73] at H
    have c73b0 := decide_eq_false c73
    clear c73
    by_cases c74 : t359 = t347
    ·rw [if_pos c74] at H
     have c74b0 := beq_iff_eq.mpr c74
     have c74b1 := bne_eq_false_iff_eq.mpr c74
     clear c74
     obtain rfl := Option.some.inj H
     go_wp2_with (first | ((with_reducible refine gQc (f := 17) rfl ?_); refine goesL_ (some 103) rfl rfl Try.func17 (by kernel_rfl) rfl #[.slice Ao58 tm2.length co58, .int .i64 1] rfl tL ?_; (with_reducible refine (laws_heldInt64SS.calls kj56 _ _ tm2 1 t359 _ ?s1 ?s2 A72.out).mono ?_); (case s1 => exact tC ((Kd.S_reads' HO_11.out).2.2)); (case s2 => exact (Kd.S_reads' HO_11.out).2.1); rintro e w' ⟨rfl, ⟨nd, rfl⟩⟩; refine ⟨_, rfl, ?_⟩))
     go_ret
     exact ⟨tE, tB⟩
    rw [if_neg c74] at H
    have c74b0 := beq_eq_false_iff_ne.mpr c74
    have c74b1 := bne_iff_ne.mpr c74
    obtain rfl := Option.some.inj H
    go_wp2_with (first | ((with_reducible refine gQc (f := 17) rfl ?_); refine goesL_ (some 103) rfl rfl Try.func17 (by kernel_rfl) rfl #[.slice Ao58 tm2.length co58, .int .i64 1] rfl tL ?_; (with_reducible refine (laws_heldInt64SS.calls kj56 _ _ tm2 1 t359 _ ?s1 ?s2 A72.out).mono ?_); (case s1 => exact tC ((Kd.S_reads' HO_11.out).2.2)); (case s2 => exact (Kd.S_reads' HO_11.out).2.1); rintro e w' ⟨rfl, ⟨nd, rfl⟩⟩; refine ⟨_, rfl, ?_⟩))
    go_ret
    exact ⟨tE, tB⟩
end Go.Proofs.Ytbalkaphibnpcaa.P
