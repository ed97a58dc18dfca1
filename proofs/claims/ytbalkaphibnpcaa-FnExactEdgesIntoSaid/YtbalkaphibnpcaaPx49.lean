/- Functions of the program and what they tell, as the printing program wrote it. -/
import Derived.Test.YtbalkaphibnpcaaPx0
import Derived.Test.YtbalkaphibnpcaaPx1
import Derived.Test.YtbalkaphibnpcaaPx4
import Derived.Test.YtbalkaphibnpcaaPx30
import Derived.Test.YtbalkaphibnpcaaPx32
import Derived.Test.YtbalkaphibnpcaaPx35
import Derived.Test.YtbalkaphibnpcaaPx36
import Derived.Test.YtbalkaphibnpcaaPx37
namespace Go.Proofs.Ytbalkaphibnpcaa.P
open Go.Shelf Go.RowKit Go.Proofs.YtbalkaphibnpcaaW.PrintWords Go.Proofs.YtbalkaphibnpcaaW.PrintLast Go.Proofs.YtbalkaphibnpcaaW.PrintMore
attribute [local go_sem] max2_int min2_int max_two min_two max_three min_three max_four min_four
set_option linter.unusedVariables false
set_option linter.unusedSimpArgs false
set_option maxHeartbeats 8000000
set_option maxRecDepth 100000
theorem ghost2 {α β : Type} {d : Kd α} {d' : Kd β} {e e' b m g : Nat} {W w' : World} {u v v6 : Value} {xs : List α} {ys : List β} (h4 : Kd.S d e w' W.heap.size (fun k => k < m) v xs) (h5 : Kd.S d' e' w' W.heap.size (fun k => m ≤ k) u ys)
 (h6 : ∀ k, v6.ownBlock = some k → k < W.heap.size) (hg : g < W.heap.size) (hb : b ≤ W.heap.size) :
 ∃ n3, (∀ k, v6.ownBlock = some k → k < n3) ∧ g < n3 ∧ Kd.S d e w' b (fun k => n3 ≤ k ∧ k < m ∧ k < w'.heap.size) v xs ∧ Kd.S d' e' w' b (fun k => n3 ≤ k ∧ m ≤ k ∧ k < w'.heap.size) u ys :=
 ⟨W.heap.size, h6, hg, Kd.S_lower (Kd.S_mono (Kd.S_bound h4) (fun _ hk => ⟨hk.2.1, hk.1, hk.2.2.1⟩)) hb, Kd.S_lower (Kd.S_mono (Kd.S_bound h5) (fun _ hk => ⟨hk.2.1, hk.1, hk.2.2.1⟩)) hb⟩
mutual
def laws_FnExactEdgesInto.j0 : Nat → Int → List Int → Int → List Int → Int → Bool → Int → Int → Int → Int → List (List Int) → List (List Int) → Int → Int → Int → Int → List (List Int) → List (List Int) → Option (Bool)
  | 0, _, _, _, _, _, _, _, _, _, _, _, _, _, _, _, _, _, _ => none
  | k + 1, x1, x6, x7, x9, x10, x44, x468000, x468001, x468002, x468003, x468004, x468005, x494000, x494001, x494002, x494003, x494004, x494005 => if x44 = true then (some false) else ((laws_toNet.f k x468000 x468001 x468002 x468003 x468004 x468005).bind fun bt499 => ((laws_eqNet.f k x494000 x494001 x494002 x494003 x494004 x494005 bt499.1 bt499.2.1 bt499.2.2.1 bt499.2.2.2.1 bt499.2.2.2.2.1 bt499.2.2.2.2.2).bind fun t509 => (if t509 = true then ((laws_markNet.f k x494000 x494001 x494002 x494003 x494004 x494005 1).bind fun bt510 => (if bt510.1 < 0 then (laws_FnExactEdgesInto.j1 k x1 x6 x7 x9 true x468000 x468001 x468002 x468003 x468004 x468005) else ((laws_eqInt64S.f k x9 x6).bind fun t511 => (if t511 = true then (laws_FnExactEdgesInto.j1 k x1 x6 x7 x9 (x10 != x7) x468000 x468001 x468002 x468003 x468004 x468005) else (laws_FnExactEdgesInto.j1 k x1 x6 x7 x9 true x468000 x468001 x468002 x468003 x468004 x468005))))) else (some false))))
def laws_FnExactEdgesInto.j1 : Nat → Int → List Int → Int → List Int → Bool → Int → Int → Int → Int → List (List Int) → List (List Int) → Option (Bool)
  | 0, _, _, _, _, _, _, _, _, _, _, _ => none
  | k + 1, x1, x6, x7, x9, x65, x468000, x468001, x468002, x468003, x468004, x468005 => if x65 = true then (some false) else ((laws_markInt64S.f k x9 1).bind fun bt512 => ((laws_heldInt64S.f k bt512.2 1).bind fun t514 => (if t514 < 0 then (some false) else (if t514 = bt512.1 then ((laws_toNet.f k x468000 x468001 x468002 x468003 x468004 x468005).bind fun bt515 => ((impl_EdgesInto.f k bt515.1 bt515.2.1 bt515.2.2.1 bt515.2.2.2.1 bt515.2.2.2.2.1 bt515.2.2.2.2.2 x1).bind fun bt525 => ((laws_eqInt64S.f k bt525.1 x6).bind fun t529 => (if t529 = true then (laws_FnExactEdgesInto.j2 k bt512.2 bt512.1 (bt525.2 != x7)) else (laws_FnExactEdgesInto.j2 k bt512.2 bt512.1 true))))) else (some false)))))
def laws_FnExactEdgesInto.j2 : Nat → List Int → Int → Bool → Option (Bool)
  | 0, _, _, _ => none
  | k + 1, x9, x12, x92 => if x92 = true then (some false) else ((laws_heldInt64S.f k x9 1).bind fun t530 => (if t530 < 0 then (some false) else (if t530 = x12 then (some true) else (some false))))
end
def laws_FnExactEdgesInto.f (k : Nat) (a0_0 : Int) (a0_1 : Int) (a0_2 : Int) (a0_3 : Int) (l0_4 : List (List Int)) (l0_5 : List (List Int)) (a1 : Int) : Option (Bool) := (laws_szNet.f k a0_0 a0_1 a0_2 a0_3 l0_4 l0_5 1048576).bind fun t468 => (if t468 < 0 then (some true) else ((laws_toNet.f k a0_0 a0_1 a0_2 a0_3 l0_4 l0_5).bind fun bt469 => ((spec_EdgesInto.f k bt469.1 bt469.2.1 bt469.2.2.1 bt469.2.2.2.1 bt469.2.2.2.2.1 bt469.2.2.2.2.2 a1).bind fun bt479 => ((laws_toNet.f k a0_0 a0_1 a0_2 a0_3 l0_4 l0_5).bind fun bt483 => ((impl_EdgesInto.f k bt483.1 bt483.2.1 bt483.2.2.1 bt483.2.2.2.1 bt483.2.2.2.2.1 bt483.2.2.2.2.2 a1).bind fun bt494 => ((laws_eqInt64S.f k bt494.1 bt479.1).bind fun t498 => (if t498 = true then (laws_FnExactEdgesInto.j0 k a1 bt479.1 bt479.2 bt494.1 bt494.2 (bt494.2 != bt479.2) a0_0 a0_1 a0_2 a0_3 l0_4 l0_5 bt483.1 bt483.2.1 bt483.2.2.1 bt483.2.2.2.1 bt483.2.2.2.2.1 bt483.2.2.2.2.2) else (laws_FnExactEdgesInto.j0 k a1 bt479.1 bt479.2 bt494.1 bt494.2 true a0_0 a0_1 a0_2 a0_3 l0_4 l0_5 bt483.1 bt483.2.1 bt483.2.2.1 bt483.2.2.2.1 bt483.2.2.2.2.1 bt483.2.2.2.2.2))))))))
theorem laws_FnExactEdgesInto.mono_l : ∀ k, (∀ y0 y1 y2 y3 y4 y5 y6 y7 y8 y9 y10 y11 y12 y13 y14 y15 y16 y17, LeO (laws_FnExactEdgesInto.j0 k y0 y1 y2 y3 y4 y5 y6 y7 y8 y9 y10 y11 y12 y13 y14 y15 y16 y17) (laws_FnExactEdgesInto.j0 (k + 1) y0 y1 y2 y3 y4 y5 y6 y7 y8 y9 y10 y11 y12 y13 y14 y15 y16 y17)) ∧ (∀ y0 y1 y2 y3 y4 y5 y6 y7 y8 y9 y10, LeO (laws_FnExactEdgesInto.j1 k y0 y1 y2 y3 y4 y5 y6 y7 y8 y9 y10) (laws_FnExactEdgesInto.j1 (k + 1) y0 y1 y2 y3 y4 y5 y6 y7 y8 y9 y10)) ∧ (∀ y0 y1 y2, LeO (laws_FnExactEdgesInto.j2 k y0 y1 y2) (laws_FnExactEdgesInto.j2 (k + 1) y0 y1 y2))
 | 0 => ⟨fun _ _ _ _ _ _ _ _ _ _ _ _ _ _ _ _ _ _ r h => by simp [laws_FnExactEdgesInto.j0] at h, fun _ _ _ _ _ _ _ _ _ _ _ r h => by simp [laws_FnExactEdgesInto.j1] at h, fun _ _ _ r h => by simp [laws_FnExactEdgesInto.j2] at h⟩
 | k + 1 => by
  obtain ⟨ih0, ih1, ih2⟩ := laws_FnExactEdgesInto.mono_l k
  refine ⟨?_, ?_, ?_⟩ <;> intros <;> first | unfold laws_FnExactEdgesInto.j0 | unfold laws_FnExactEdgesInto.j1 | unfold laws_FnExactEdgesInto.j2
  all_goals repeat' first
   | (with_reducible first | apply ih0 | apply ih1 | apply ih2 | apply impl_EdgesInto.mono | apply laws_eqInt64S.mono | apply laws_eqNet.mono | apply laws_heldInt64S.mono | apply laws_markInt64S.mono | apply laws_markNet.mono | apply laws_szNet.mono | apply laws_toNet.mono | apply spec_EdgesInto.mono | exact LeO.refl _ | exact LeO.none _ | refine LeO.ite ?_ ?_ | refine LeO.bind ?_ (fun _ => ?_))
   | exact LeO.none _
   | refine LeO.ite ?_ ?_
   | refine LeO.bind ?_ (fun _ => ?_)
theorem laws_FnExactEdgesInto.mono : ∀ a0 a1 a2 a3 a4 a5 a6 k, LeO (laws_FnExactEdgesInto.f k a0 a1 a2 a3 a4 a5 a6) (laws_FnExactEdgesInto.f (k + 1) a0 a1 a2 a3 a4 a5 a6) := by
 intro a0 a1 a2 a3 a4 a5 a6 k
 obtain ⟨ih0, ih1, ih2⟩ := laws_FnExactEdgesInto.mono_l k
 unfold laws_FnExactEdgesInto.f
 repeat' first
  | (with_reducible first | apply ih0 | apply ih1 | apply ih2 | apply impl_EdgesInto.mono | apply laws_eqInt64S.mono | apply laws_eqNet.mono | apply laws_heldInt64S.mono | apply laws_markInt64S.mono | apply laws_markNet.mono | apply laws_szNet.mono | apply laws_toNet.mono | apply spec_EdgesInto.mono | exact LeO.refl _ | exact LeO.none _ | refine LeO.ite ?_ ?_ | refine LeO.bind ?_ (fun _ => ?_))
  | exact LeO.none _
  | refine LeO.ite ?_ ?_
  | refine LeO.bind ?_ (fun _ => ?_)
theorem laws_FnExactEdgesInto.calls (k : Nat) (a0_0 : Int) (a0_1 : Int) (a0_2 : Int) (a0_3 : Int) (A0_4 : Option Addr) (c0_4 : Nat) (l0_4 : List (List Int)) (A0_5 : Option Addr) (c0_5 : Nat) (l0_5 : List (List Int)) (a1 : Int) (r : Bool) (w : World) (hr0_4 : Kd.C (Kd.slice 2 (Kd.int .i64)) w A0_4 l0_4.length l0_4) (hc0_4 : l0_4.length ≤ c0_4) (hr0_5 : Kd.C (Kd.slice 2 (Kd.int .i64)) w A0_5 l0_5.length l0_5) (hc0_5 : l0_5.length ≤ c0_5) (h : laws_FnExactEdgesInto.f k a0_0 a0_1 a0_2 a0_3 l0_4 l0_5 a1 = some r) :
 Calls Try.prog 5 #[.agg #[.int .i64 a0_0, .int .i64 a0_1, .int .i64 a0_2, .int .i64 a0_3, .slice A0_4 l0_4.length c0_4, .slice A0_5 l0_5.length c0_5], .int .i64 a1] w fun e w' => e = .returned (.bool r) ∧ Below w.heap.size w w' := by
 have hu36 := Try.underlying36
 have hu42 := Try.underlying42
 have HR0_4 := Aq.mk hr0_4
 have HC0_4 := Aq.mk hc0_4
 clear hr0_4 hc0_4
 have HR0_5 := Aq.mk hr0_5
 have HC0_5 := Aq.mk hc0_5
 clear hr0_5 hc0_5
 have HB := Aq.mk (Below.refl w.heap.size w)
 have H : ((laws_szNet.f k a0_0 a0_1 a0_2 a0_3 l0_4 l0_5 1048576).bind fun t468 => (if t468 < 0 then (some true) else ((laws_toNet.f k a0_0 a0_1 a0_2 a0_3 l0_4 l0_5).bind fun bt469 => ((spec_EdgesInto.f k bt469.1 bt469.2.1 bt469.2.2.1 bt469.2.2.2.1 bt469.2.2.2.2.1 bt469.2.2.2.2.2 a1).bind fun bt479 => ((laws_toNet.f k a0_0 a0_1 a0_2 a0_3 l0_4 l0_5).bind fun bt483 => ((impl_EdgesInto.f k bt483.1 bt483.2.1 bt483.2.2.1 bt483.2.2.2.1 bt483.2.2.2.2.1 bt483.2.2.2.2.2 a1).bind fun bt494 => ((laws_eqInt64S.f k bt494.1 bt479.1).bind fun t498 => (if t498 = true then (laws_FnExactEdgesInto.j0 k a1 bt479.1 bt479.2 bt494.1 bt494.2 (bt494.2 != bt479.2) a0_0 a0_1 a0_2 a0_3 l0_4 l0_5 bt483.1 bt483.2.1 bt483.2.2.1 bt483.2.2.2.1 bt483.2.2.2.2.1 bt483.2.2.2.2.2) else (laws_FnExactEdgesInto.j0 k a1 bt479.1 bt479.2 bt494.1 bt494.2 true a0_0 a0_1 a0_2 a0_3 l0_4 l0_5 bt483.1 bt483.2.1 bt483.2.2.1 bt483.2.2.2.1 bt483.2.2.2.2.1 bt483.2.2.2.2.2))))))))) = some r := h
 clear h
 obtain ⟨t468, A3, H⟩ := qBd H
 by_cases c4 : t468 < 0
 ·rw [if_pos c4] at H
  have c4b0 := decide_eq_true c4
  clear c4
  obtain rfl := Option.some.inj H
  go_enter Try.func5, Try.ntmps5
  go_wp2_with (first | ((with_reducible refine gQd (N := 2) rfl ?_); refine xQe ?hg (N := 2) ?hd (cs := #[.int .i64 a0_0, .int .i64 a0_1, .int .i64 a0_2, .int .i64 a0_3, .slice A0_4 l0_4.length c0_4, .slice A0_5 l0_5.length c0_5]) (t := 36) ?hr ?_; (case hd => rfl); (case hg => rfl); (case hr => exact tH); intro gb467 hg w5 hbox hb; refine qM4 (bQT tB hb) hbox (tZ w hg) (tZ w hg) ?_; clear HB; intro HB BK467 GW467 GE467; clear hb hbox hg; have hcz6_0 : w5.cell? ⟨gb467, 0, none⟩ = some (.int .i64 a0_0) := (kQC BK467.out 0).trans rfl; have hcz6_1 : w5.cell? ⟨gb467, 1, none⟩ = some (.int .i64 a0_1) := (kQC BK467.out 1).trans rfl; have hcz6_2 : w5.cell? ⟨gb467, 2, none⟩ = some (.int .i64 a0_2) := (kQC BK467.out 2).trans rfl; have hcz6_3 : w5.cell? ⟨gb467, 3, none⟩ = some (.int .i64 a0_3) := (kQC BK467.out 3).trans rfl; have hcz6_4 : w5.cell? ⟨gb467, 4, none⟩ = some (.slice A0_4 l0_4.length c0_4) := (kQC BK467.out 4).trans rfl; have hcz6_5 : w5.cell? ⟨gb467, 5, none⟩ = some (.slice A0_5 l0_5.length c0_5) := (kQC BK467.out 5).trans rfl; have hfz6_0 := kQF BK467.out 0; have hfz6_1 := kQF BK467.out 1; have hfz6_2 := kQF BK467.out 2; have hfz6_3 := kQF BK467.out 3; have hfz6_4 := kQF BK467.out 4; have hfz6_5 := kQF BK467.out 5) | ((with_reducible refine gQc (f := 18) rfl ?_); refine goesL_ (some 18) rfl rfl Try.func18 (by kernel_rfl) rfl #[.agg #[.int .i64 a0_0, .int .i64 a0_1, .int .i64 a0_2, .int .i64 a0_3, .slice A0_4 l0_4.length c0_4, .slice A0_5 l0_5.length c0_5], .int .i64 1048576] rfl tL ?_; (with_reducible refine (laws_szNet.calls k a0_0 a0_1 a0_2 a0_3 _ _ l0_4 _ _ l0_5 1048576 t468 _ ?s1 ?s2 ?s3 ?s4 A3.out).mono ?_); (case s1 => exact tC ((Kd.C_below HR0_4.out HB.out))); (case s2 => exact HC0_4.out); (case s3 => exact tC ((Kd.C_below HR0_5.out HB.out))); (case s4 => exact HC0_5.out); rintro e w7 ⟨rfl, hb⟩; refine ⟨_, rfl, ?_⟩; refine qM2 (tQ BK467.out hb) (bQT tB hb) ?_; clear BK467 HB; intro BK467 HB; (try clear hb); (try clear hb2); (try clear hk); (try clear hi)))
  go_ret
  exact ⟨tE, tB⟩
 rw [if_neg c4] at H
 have c4b0 := decide_eq_false c4
 clear c4
 obtain ⟨⟨t469, t470, t471, t472, t473, t476⟩, A8, H⟩ := qBd H
 (try dsimp only at H)
 obtain ⟨⟨t479, t482⟩, A9, H⟩ := qBd H
 (try dsimp only at H)
 obtain ⟨⟨t483, t484, t485, t486, t487, t490⟩, A10, H⟩ := qBd H
 (try dsimp only at H)
 obtain ⟨⟨t494, t497⟩, A11, H⟩ := qBd H
 (try dsimp only at H)
 have HC12 := Aq.mk H
 clear H
 go_enter Try.func5, Try.ntmps5
 go_upto_region 8 with (first | ((with_reducible refine gQd (N := 2) rfl ?_); refine xQe ?hg (N := 2) ?hd (cs := #[.int .i64 a0_0, .int .i64 a0_1, .int .i64 a0_2, .int .i64 a0_3, .slice A0_4 l0_4.length c0_4, .slice A0_5 l0_5.length c0_5]) (t := 36) ?hr ?_; (case hd => rfl); (case hg => rfl); (case hr => exact tH); intro gb467 hg w13 hbox hb; refine qM4 (bQT tB hb) hbox (tZ w hg) (tZ w hg) ?_; clear HB; intro HB BK467 GW467 GE467; clear hb hbox hg; have hcz14_0 : w13.cell? ⟨gb467, 0, none⟩ = some (.int .i64 a0_0) := (kQC BK467.out 0).trans rfl; have hcz14_1 : w13.cell? ⟨gb467, 1, none⟩ = some (.int .i64 a0_1) := (kQC BK467.out 1).trans rfl; have hcz14_2 : w13.cell? ⟨gb467, 2, none⟩ = some (.int .i64 a0_2) := (kQC BK467.out 2).trans rfl; have hcz14_3 : w13.cell? ⟨gb467, 3, none⟩ = some (.int .i64 a0_3) := (kQC BK467.out 3).trans rfl; have hcz14_4 : w13.cell? ⟨gb467, 4, none⟩ = some (.slice A0_4 l0_4.length c0_4) := (kQC BK467.out 4).trans rfl; have hcz14_5 : w13.cell? ⟨gb467, 5, none⟩ = some (.slice A0_5 l0_5.length c0_5) := (kQC BK467.out 5).trans rfl; have hfz14_0 := kQF BK467.out 0; have hfz14_1 := kQF BK467.out 1; have hfz14_2 := kQF BK467.out 2; have hfz14_3 := kQF BK467.out 3; have hfz14_4 := kQF BK467.out 4; have hfz14_5 := kQF BK467.out 5) | ((with_reducible refine gQc (f := 18) rfl ?_); refine goesL_ (some 18) rfl rfl Try.func18 (by kernel_rfl) rfl #[.agg #[.int .i64 a0_0, .int .i64 a0_1, .int .i64 a0_2, .int .i64 a0_3, .slice A0_4 l0_4.length c0_4, .slice A0_5 l0_5.length c0_5], .int .i64 1048576] rfl tL ?_; (with_reducible refine (laws_szNet.calls k a0_0 a0_1 a0_2 a0_3 _ _ l0_4 _ _ l0_5 1048576 t468 _ ?s1 ?s2 ?s3 ?s4 A3.out).mono ?_); (case s1 => exact tC ((Kd.C_below HR0_4.out HB.out))); (case s2 => exact HC0_4.out); (case s3 => exact tC ((Kd.C_below HR0_5.out HB.out))); (case s4 => exact HC0_5.out); rintro e w15 ⟨rfl, hb⟩; refine ⟨_, rfl, ?_⟩; refine qM2 (tQ BK467.out hb) (bQT tB hb) ?_; clear BK467 HB; intro BK467 HB; (try clear hb); (try clear hb2); (try clear hk); (try clear hi); have hcz16_0 : w15.cell? ⟨gb467, 0, none⟩ = some (.int .i64 a0_0) := (kQC BK467.out 0).trans rfl; have hcz16_1 : w15.cell? ⟨gb467, 1, none⟩ = some (.int .i64 a0_1) := (kQC BK467.out 1).trans rfl; have hcz16_2 : w15.cell? ⟨gb467, 2, none⟩ = some (.int .i64 a0_2) := (kQC BK467.out 2).trans rfl; have hcz16_3 : w15.cell? ⟨gb467, 3, none⟩ = some (.int .i64 a0_3) := (kQC BK467.out 3).trans rfl; have hcz16_4 : w15.cell? ⟨gb467, 4, none⟩ = some (.slice A0_4 l0_4.length c0_4) := (kQC BK467.out 4).trans rfl; have hcz16_5 : w15.cell? ⟨gb467, 5, none⟩ = some (.slice A0_5 l0_5.length c0_5) := (kQC BK467.out 5).trans rfl; have hfz16_0 := kQF BK467.out 0; have hfz16_1 := kQF BK467.out 1; have hfz16_2 := kQF BK467.out 2; have hfz16_3 := kQF BK467.out 3; have hfz16_4 := kQF BK467.out 4; have hfz16_5 := kQF BK467.out 5) | ((with_reducible refine gQc (f := 20) rfl ?_); refine goesL_ (some 23) rfl rfl Try.func20 (by kernel_rfl) rfl #[.agg #[.int .i64 a0_0, .int .i64 a0_1, .int .i64 a0_2, .int .i64 a0_3, .slice A0_4 l0_4.length c0_4, .slice A0_5 l0_5.length c0_5]] rfl tL ?_; (with_reducible refine (laws_toNet.calls k a0_0 a0_1 a0_2 a0_3 _ _ l0_4 _ _ l0_5 t469 t470 t471 t472 t473 t476 _ ?s1 ?s2 ?s3 ?s4 A8.out).mono ?_); (case s1 => exact tC ((Kd.C_below HR0_4.out HB.out))); (case s2 => exact HC0_4.out); (case s3 => exact tC ((Kd.C_below HR0_5.out HB.out))); (case s4 => exact HC0_5.out); rintro e w17 ⟨v474, v477, rfl, ho0, ho1, hb⟩; refine ⟨_, rfl, ?_⟩; refine qM4 (Kd.S_lower ho0 (bQZ tB)) (Kd.S_lower ho1 (bQZ tB)) (tQ BK467.out hb) (bQT tB hb) ?_; clear BK467 HB; intro HO475 HO478 BK467 HB; (try clear hb); (try clear hb2); (try clear hk); (try clear hi); (try clear ho0); (try clear ho1); obtain ⟨Ao18, co18, eo18⟩ := Kd.S_slice HO475.out; subst eo18; obtain ⟨Ao19, co19, eo19⟩ := Kd.S_slice HO478.out; subst eo19) | ((with_reducible refine gQc (f := 19) rfl ?_); refine goesL_ (some 25) rfl rfl Try.func19 (by kernel_rfl) rfl #[.agg #[.int .i64 t469, .int .i64 t470, .int .i64 t471, .int .i64 t472, .slice Ao18 t473.length co18, .slice Ao19 t476.length co19], .int .i64 a1] rfl tL ?_; (with_reducible refine (spec_EdgesInto.calls k t469 t470 t471 t472 _ _ t473 _ _ t476 a1 t479 t482 _ ?s1 ?s2 ?s3 ?s4 A9.out).mono ?_); (case s1 => exact tC ((Kd.S_reads' HO475.out).2.2)); (case s2 => exact (Kd.S_reads' HO475.out).2.1); (case s3 => exact tC ((Kd.S_reads' HO478.out).2.2)); (case s4 => exact (Kd.S_reads' HO478.out).2.1); rintro e w20 ⟨v480, rfl, ho0, hb⟩; refine ⟨_, rfl, ?_⟩; refine qM5 (Kd.S_elder' (by (with_reducible repeat (first | apply Kd.S_alloc | apply Kd.S_drewN | apply Kd.S_drew)); exact HO475.out) (Kd.R_base ho0) hb) (Kd.S_elder' (by (with_reducible repeat (first | apply Kd.S_alloc | apply Kd.S_drewN | apply Kd.S_drew)); exact HO478.out) (Kd.R_base ho0) hb) (Kd.R_lower ho0 (bQZ tB)) (tQ BK467.out hb) (bQT tB hb) ?_; clear HO475 HO478 BK467 HB; intro HO475 HO478 HO481 BK467 HB; (try clear hb); (try clear hb2); (try clear hk); (try clear hi); (try clear ho0); have hcz21_0 : w20.cell? ⟨gb467, 0, none⟩ = some (.int .i64 a0_0) := (kQC BK467.out 0).trans rfl; have hcz21_1 : w20.cell? ⟨gb467, 1, none⟩ = some (.int .i64 a0_1) := (kQC BK467.out 1).trans rfl; have hcz21_2 : w20.cell? ⟨gb467, 2, none⟩ = some (.int .i64 a0_2) := (kQC BK467.out 2).trans rfl; have hcz21_3 : w20.cell? ⟨gb467, 3, none⟩ = some (.int .i64 a0_3) := (kQC BK467.out 3).trans rfl; have hcz21_4 : w20.cell? ⟨gb467, 4, none⟩ = some (.slice A0_4 l0_4.length c0_4) := (kQC BK467.out 4).trans rfl; have hcz21_5 : w20.cell? ⟨gb467, 5, none⟩ = some (.slice A0_5 l0_5.length c0_5) := (kQC BK467.out 5).trans rfl; have hfz21_0 := kQF BK467.out 0; have hfz21_1 := kQF BK467.out 1; have hfz21_2 := kQF BK467.out 2; have hfz21_3 := kQF BK467.out 3; have hfz21_4 := kQF BK467.out 4; have hfz21_5 := kQF BK467.out 5) | ((with_reducible refine gQc (f := 20) rfl ?_); refine goesL_ (some 29) rfl rfl Try.func20 (by kernel_rfl) rfl #[.agg #[.int .i64 a0_0, .int .i64 a0_1, .int .i64 a0_2, .int .i64 a0_3, .slice A0_4 l0_4.length c0_4, .slice A0_5 l0_5.length c0_5]] rfl tL ?_; (with_reducible refine (laws_toNet.calls_m k a0_0 a0_1 a0_2 a0_3 _ _ l0_4 _ _ l0_5 t483 t484 t485 t486 t487 t490 _ ?s1 ?s2 ?s3 ?s4 A10.out).mono ?_); (case s1 => exact tC ((Kd.C_below HR0_4.out HB.out))); (case s2 => exact HC0_4.out); (case s3 => exact tC ((Kd.C_below HR0_5.out HB.out))); (case s4 => exact HC0_5.out); rintro e w22 ⟨v488, v491, rfl, ⟨mm_, hm0_, hm1_⟩, hb⟩; refine ⟨_, rfl, ?_⟩; have ho0 := Kd.S_mono hm0_ (ok' := fun k_ => some k_ ≠ (v491 : Value).ownBlock) (fun k hk he => by have := (Kd.S_R hm1_).1 k he.symm; omega); have ho1 := Kd.S_mono hm1_ (ok' := fun k_ => some k_ ≠ (v488 : Value).ownBlock) (fun k hk he => by have := (Kd.S_R hm0_).1 k he.symm; omega); obtain ⟨n3, gh6, gh467, gs4, gs5⟩ := ghost2 (b := w.heap.size) hm0_ hm1_ (Kd.R_lt HO481.out) (blk_lt BK467.out) (bQZ tB); have gb4 := Below.refl w22.heap.size w22; have GH6 := Aq.mk gh6; have GH467 := Aq.mk gh467; have GS4 := Aq.mk gs4; have GS5 := Aq.mk gs5; have GB4 := Aq.mk gb4; clear gh6 gh467 gs4 gs5 gb4 hm0_ hm1_; refine qM7 (Kd.S_mono (Kd.S_told (Kd.S_told (Kd.S_old (by (with_reducible repeat (first | apply Kd.S_alloc | apply Kd.S_drewN | apply Kd.S_drew)); exact HO475.out) hb) (Kd.S_base ho0)) (Kd.S_base ho1)) (fun _ h_ => h_.1)) (Kd.S_mono (Kd.S_told (Kd.S_told (Kd.S_old (by (with_reducible repeat (first | apply Kd.S_alloc | apply Kd.S_drewN | apply Kd.S_drew)); exact HO478.out) hb) (Kd.S_base ho0)) (Kd.S_base ho1)) (fun _ h_ => h_.1)) (Kd.R_below (tR HO481.out) hb) (Kd.S_lower (Kd.S_new' (Kd.S_new' (Kd.S_new' ho0 (Kd.S_lt (by (with_reducible repeat (first | apply Kd.S_alloc | apply Kd.S_drewN | apply Kd.S_drew)); exact HO475.out))) (Kd.S_lt (by (with_reducible repeat (first | apply Kd.S_alloc | apply Kd.S_drewN | apply Kd.S_drew)); exact HO478.out))) (Kd.R_lt (tR HO481.out))) (bQZ tB)) (Kd.S_lower (Kd.S_new' (Kd.S_new' (Kd.S_new' ho1 (Kd.S_lt (by (with_reducible repeat (first | apply Kd.S_alloc | apply Kd.S_drewN | apply Kd.S_drew)); exact HO475.out))) (Kd.S_lt (by (with_reducible repeat (first | apply Kd.S_alloc | apply Kd.S_drewN | apply Kd.S_drew)); exact HO478.out))) (Kd.R_lt (tR HO481.out))) (bQZ tB)) (tQ BK467.out hb) (bQT tB hb) ?_; clear HO475 HO478 HO481 BK467 HB; intro HO475 HO478 HO481 HO489 HO492 BK467 HB; (try clear hb); (try clear hb2); (try clear hk); (try clear hi); (try clear ho0); (try clear ho1)) | ((with_reducible refine gQd (N := 8) rfl ?_); refine xQe ?hg (N := 8) ?hd (cs := #[.int .i64 0, .int .i64 0, .int .i64 0, .int .i64 0, .slice none 0 0, .slice none 0 0]) (t := 42) ?hr ?_; (case hd => rfl); (case hg => rfl); (case hr => exact tH); intro gb493 hg w23 hbox hb; have n0_ := Aq.mk (Kd.S_below (by (with_reducible repeat (first | apply Kd.S_alloc | apply Kd.S_drewN | apply Kd.S_drew)); exact HO475.out) hb); have n1_ := Aq.mk (Kd.S_below (by (with_reducible repeat (first | apply Kd.S_alloc | apply Kd.S_drewN | apply Kd.S_drew)); exact HO478.out) hb); have n2_ := Aq.mk (Kd.R_below (tR HO481.out) hb); have n3_ := Aq.mk (Kd.S_below (by (with_reducible repeat (first | apply Kd.S_alloc | apply Kd.S_drewN | apply Kd.S_drew)); exact HO489.out) hb); have n4_ := Aq.mk (Kd.S_below (by (with_reducible repeat (first | apply Kd.S_alloc | apply Kd.S_drewN | apply Kd.S_drew)); exact HO492.out) hb); have n5_ := Aq.mk (tQ BK467.out hb); have n6_ := Aq.mk (bQT tB hb); have G493 := Aq.mk ((by rw [hg]; exact (bQZ (by repeat (first | (with_reducible first | exact GB4.out | apply bQA | apply bQN | apply bQ1) | exact GB4.out)))) : w22.heap.size ≤ gb493); have gq_ := Aq.mk (bQT (by repeat (first | (with_reducible first | exact GB4.out | apply bQA | apply bQN | apply bQ1) | exact GB4.out)) hb); clear GB4; have GB4 := gq_; clear gq_; have n7_ := Aq.mk (hbox); have n8_ := Aq.mk (tZ w hg); have n9_ := Aq.mk (tZ w hg); have n10_ := Aq.mk ((by rw [hg]; exact Nat.ne_of_lt (blk_lt (g := gb467) (o := .cells #[.int .i64 a0_0, .int .i64 a0_1, .int .i64 a0_2, .int .i64 a0_3, .slice A0_4 l0_4.length c0_4, .slice A0_5 l0_5.length c0_5] 36 (0, 0)) (tG BK467.out)) : gb467 ≠ gb493)); have n11_ := Aq.mk ((by rw [hg]; exact Nat.ne_of_gt (blk_lt (g := gb467) (o := .cells #[.int .i64 a0_0, .int .i64 a0_1, .int .i64 a0_2, .int .i64 a0_3, .slice A0_4 l0_4.length c0_4, .slice A0_5 l0_5.length c0_5] 36 (0, 0)) (tG BK467.out)) : gb493 ≠ gb467)); clear HO475; clear HO478; clear HO481; clear HO489; clear HO492; clear BK467; clear HB; have HO475 := n0_; have HO478 := n1_; have HO481 := n2_; have HO489 := n3_; have HO492 := n4_; have BK467 := n5_; have HB := n6_; have BK493 := n7_; have GW493 := n8_; have GE493 := n9_; have NB467_493 := n10_; have NB493_467 := n11_; clear n0_ n1_ n2_ n3_ n4_ n5_ n6_ n7_ n8_ n9_ n10_ n11_; clear hb hbox hg; have hnb24 := NB493_467.out; have hnc24 := NB467_493.out; have hcz25_0 : w23.cell? ⟨gb493, 0, none⟩ = some (.int .i64 0) := (kQC BK493.out 0).trans rfl; have hcz25_1 : w23.cell? ⟨gb493, 1, none⟩ = some (.int .i64 0) := (kQC BK493.out 1).trans rfl; have hcz25_2 : w23.cell? ⟨gb493, 2, none⟩ = some (.int .i64 0) := (kQC BK493.out 2).trans rfl; have hcz25_3 : w23.cell? ⟨gb493, 3, none⟩ = some (.int .i64 0) := (kQC BK493.out 3).trans rfl; have hcz25_4 : w23.cell? ⟨gb493, 4, none⟩ = some (.slice none 0 0) := (kQC BK493.out 4).trans rfl; have hcz25_5 : w23.cell? ⟨gb493, 5, none⟩ = some (.slice none 0 0) := (kQC BK493.out 5).trans rfl; have hfz25_0 := kQF BK493.out 0; have hfz25_1 := kQF BK493.out 1; have hfz25_2 := kQF BK493.out 2; have hfz25_3 := kQF BK493.out 3; have hfz25_4 := kQF BK493.out 4; have hfz25_5 := kQF BK493.out 5; obtain ⟨Ao26, co26, eo26⟩ := Kd.S_slice HO489.out; subst eo26; obtain ⟨Ao27, co27, eo27⟩ := Kd.S_slice HO492.out; subst eo27) | ((with_reducible refine gQc (f := 21) rfl ?_); refine goesL_ (some 33) rfl rfl Try.func21 (by kernel_rfl) rfl #[.agg #[.int .i64 t483, .int .i64 t484, .int .i64 t485, .int .i64 t486, .slice Ao26 t487.length co26, .slice Ao27 t490.length co27], .int .i64 a1] rfl tL ?_; (with_reducible refine (impl_EdgesInto.calls k t483 t484 t485 t486 _ _ t487 _ _ t490 a1 t494 t497 _ ?s1 ?s2 ?s3 ?s4 A11.out).mono ?_); (case s1 => refine (Kd.S_reads' (e := 38) (base := w.heap.size) (ok := fun k_ => (((some k_ ≠ (.slice Ao27 t490.length co27 : Value).ownBlock ∧ some k_ ≠ (.slice Ao18 t473.length co18 : Value).ownBlock) ∧ some k_ ≠ (.slice Ao19 t476.length co19 : Value).ownBlock) ∧ some k_ ≠ (v480 : Value).ownBlock)) (n := t487.length) (c := co26) ?_).2.2; exact (by (with_reducible repeat (first | apply Kd.S_alloc | apply Kd.S_drewN | apply Kd.S_drew)); exact (Kd.S_mono (Kd.S_far (p := ⟨gb493, 5, none⟩) (Kd.S_far (p := ⟨gb493, 4, none⟩) (Kd.S_far (p := ⟨gb493, 3, none⟩) (Kd.S_far (p := ⟨gb493, 2, none⟩) (Kd.S_far (p := ⟨gb493, 1, none⟩) (Kd.S_far (p := ⟨gb493, 0, none⟩) (Kd.S_types HO489.out BK493.out (by decide)) (fun _ hk => hk.2) (.int .i64 t483)) (fun _ hk => hk.2) (.int .i64 t484)) (fun _ hk => hk.2) (.int .i64 t485)) (fun _ hk => hk.2) (.int .i64 t486)) (fun _ hk => hk.2) (.slice Ao26 t487.length co26)) (fun _ hk => hk.2) (.slice Ao27 t490.length co27)) (fun _ h_ => h_.1)))); (case s2 => exact (Kd.S_reads' HO489.out).2.1); (case s3 => refine (Kd.S_reads' (e := 38) (base := w.heap.size) (ok := fun k_ => (((some k_ ≠ (.slice Ao26 t487.length co26 : Value).ownBlock ∧ some k_ ≠ (.slice Ao18 t473.length co18 : Value).ownBlock) ∧ some k_ ≠ (.slice Ao19 t476.length co19 : Value).ownBlock) ∧ some k_ ≠ (v480 : Value).ownBlock)) (n := t490.length) (c := co27) ?_).2.2; exact (by (with_reducible repeat (first | apply Kd.S_alloc | apply Kd.S_drewN | apply Kd.S_drew)); exact (Kd.S_mono (Kd.S_far (p := ⟨gb493, 5, none⟩) (Kd.S_far (p := ⟨gb493, 4, none⟩) (Kd.S_far (p := ⟨gb493, 3, none⟩) (Kd.S_far (p := ⟨gb493, 2, none⟩) (Kd.S_far (p := ⟨gb493, 1, none⟩) (Kd.S_far (p := ⟨gb493, 0, none⟩) (Kd.S_types HO492.out BK493.out (by decide)) (fun _ hk => hk.2) (.int .i64 t483)) (fun _ hk => hk.2) (.int .i64 t484)) (fun _ hk => hk.2) (.int .i64 t485)) (fun _ hk => hk.2) (.int .i64 t486)) (fun _ hk => hk.2) (.slice Ao26 t487.length co26)) (fun _ hk => hk.2) (.slice Ao27 t490.length co27)) (fun _ h_ => h_.1)))); (case s4 => exact (Kd.S_reads' HO492.out).2.1); rintro e w28 ⟨v495, rfl, ho0, hb⟩; refine ⟨_, rfl, ?_⟩; have GH9 := Aq.mk (show ∀ k_, (v495 : Value).ownBlock = some k_ → w22.heap.size ≤ k_ from fun k_ e_ => Nat.le_trans (bQZ (by repeat (first | (with_reducible first | exact GB4.out | apply bQA | apply bQN | apply bQ1 | refine bQS ?_ G493.out) | exact GB4.out))) (Kd.R_base ho0 k_ e_)); have n0_ := Aq.mk (Kd.S_elder' (by (with_reducible repeat (first | apply Kd.S_alloc | apply Kd.S_drewN | apply Kd.S_drew)); exact (Kd.S_mono (Kd.S_far (p := ⟨gb493, 5, none⟩) (Kd.S_far (p := ⟨gb493, 4, none⟩) (Kd.S_far (p := ⟨gb493, 3, none⟩) (Kd.S_far (p := ⟨gb493, 2, none⟩) (Kd.S_far (p := ⟨gb493, 1, none⟩) (Kd.S_far (p := ⟨gb493, 0, none⟩) (Kd.S_types HO475.out BK493.out (by decide)) (fun _ hk => hk.2) (.int .i64 t483)) (fun _ hk => hk.2) (.int .i64 t484)) (fun _ hk => hk.2) (.int .i64 t485)) (fun _ hk => hk.2) (.int .i64 t486)) (fun _ hk => hk.2) (.slice Ao26 t487.length co26)) (fun _ hk => hk.2) (.slice Ao27 t490.length co27)) (fun _ h_ => h_.1))) (Kd.R_base ho0) hb); have n1_ := Aq.mk (Kd.S_elder' (by (with_reducible repeat (first | apply Kd.S_alloc | apply Kd.S_drewN | apply Kd.S_drew)); exact (Kd.S_mono (Kd.S_far (p := ⟨gb493, 5, none⟩) (Kd.S_far (p := ⟨gb493, 4, none⟩) (Kd.S_far (p := ⟨gb493, 3, none⟩) (Kd.S_far (p := ⟨gb493, 2, none⟩) (Kd.S_far (p := ⟨gb493, 1, none⟩) (Kd.S_far (p := ⟨gb493, 0, none⟩) (Kd.S_types HO478.out BK493.out (by decide)) (fun _ hk => hk.2) (.int .i64 t483)) (fun _ hk => hk.2) (.int .i64 t484)) (fun _ hk => hk.2) (.int .i64 t485)) (fun _ hk => hk.2) (.int .i64 t486)) (fun _ hk => hk.2) (.slice Ao26 t487.length co26)) (fun _ hk => hk.2) (.slice Ao27 t490.length co27)) (fun _ h_ => h_.1))) (Kd.R_base ho0) hb); have n2_ := Aq.mk (Kd.R_elder' (by (with_reducible repeat (first | apply Kd.RqA | apply Kd.RqN | apply Kd.RqD)); exact (Kd.R_mono (Kd.R_far (p := ⟨gb493, 5, none⟩) (Kd.R_far (p := ⟨gb493, 4, none⟩) (Kd.R_far (p := ⟨gb493, 3, none⟩) (Kd.R_far (p := ⟨gb493, 2, none⟩) (Kd.R_far (p := ⟨gb493, 1, none⟩) (Kd.R_far (p := ⟨gb493, 0, none⟩) (Kd.R_types HO481.out BK493.out (by decide)) (fun _ hk => hk.2) (.int .i64 t483)) (fun _ hk => hk.2) (.int .i64 t484)) (fun _ hk => hk.2) (.int .i64 t485)) (fun _ hk => hk.2) (.int .i64 t486)) (fun _ hk => hk.2) (.slice Ao26 t487.length co26)) (fun _ hk => hk.2) (.slice Ao27 t490.length co27)) (fun _ h_ => h_.1))) (Kd.R_base ho0) hb); have n3_ := Aq.mk (Kd.S_elder' (by (with_reducible repeat (first | apply Kd.S_alloc | apply Kd.S_drewN | apply Kd.S_drew)); exact (Kd.S_mono (Kd.S_far (p := ⟨gb493, 5, none⟩) (Kd.S_far (p := ⟨gb493, 4, none⟩) (Kd.S_far (p := ⟨gb493, 3, none⟩) (Kd.S_far (p := ⟨gb493, 2, none⟩) (Kd.S_far (p := ⟨gb493, 1, none⟩) (Kd.S_far (p := ⟨gb493, 0, none⟩) (Kd.S_types HO489.out BK493.out (by decide)) (fun _ hk => hk.2) (.int .i64 t483)) (fun _ hk => hk.2) (.int .i64 t484)) (fun _ hk => hk.2) (.int .i64 t485)) (fun _ hk => hk.2) (.int .i64 t486)) (fun _ hk => hk.2) (.slice Ao26 t487.length co26)) (fun _ hk => hk.2) (.slice Ao27 t490.length co27)) (fun _ h_ => h_.1))) (Kd.R_base ho0) hb); have n4_ := Aq.mk (Kd.S_elder' (by (with_reducible repeat (first | apply Kd.S_alloc | apply Kd.S_drewN | apply Kd.S_drew)); exact (Kd.S_mono (Kd.S_far (p := ⟨gb493, 5, none⟩) (Kd.S_far (p := ⟨gb493, 4, none⟩) (Kd.S_far (p := ⟨gb493, 3, none⟩) (Kd.S_far (p := ⟨gb493, 2, none⟩) (Kd.S_far (p := ⟨gb493, 1, none⟩) (Kd.S_far (p := ⟨gb493, 0, none⟩) (Kd.S_types HO492.out BK493.out (by decide)) (fun _ hk => hk.2) (.int .i64 t483)) (fun _ hk => hk.2) (.int .i64 t484)) (fun _ hk => hk.2) (.int .i64 t485)) (fun _ hk => hk.2) (.int .i64 t486)) (fun _ hk => hk.2) (.slice Ao26 t487.length co26)) (fun _ hk => hk.2) (.slice Ao27 t490.length co27)) (fun _ h_ => h_.1))) (Kd.R_base ho0) hb); have n5_ := Aq.mk (Kd.R_lower (Kd.R_new' ho0 (Kd.R_lt (by (with_reducible repeat (first | apply Kd.RqA | apply Kd.RqN | apply Kd.RqD)); exact (Kd.R_mono (Kd.R_far (p := ⟨gb493, 5, none⟩) (Kd.R_far (p := ⟨gb493, 4, none⟩) (Kd.R_far (p := ⟨gb493, 3, none⟩) (Kd.R_far (p := ⟨gb493, 2, none⟩) (Kd.R_far (p := ⟨gb493, 1, none⟩) (Kd.R_far (p := ⟨gb493, 0, none⟩) (Kd.R_types HO481.out BK493.out (by decide)) (fun _ hk => hk.2) (.int .i64 t483)) (fun _ hk => hk.2) (.int .i64 t484)) (fun _ hk => hk.2) (.int .i64 t485)) (fun _ hk => hk.2) (.int .i64 t486)) (fun _ hk => hk.2) (.slice Ao26 t487.length co26)) (fun _ hk => hk.2) (.slice Ao27 t490.length co27)) (fun _ h_ => h_.1))))) (bQZ tB)); have n6_ := Aq.mk (kQB (g := gb467) (o := .cells #[.int .i64 a0_0, .int .i64 a0_1, .int .i64 a0_2, .int .i64 a0_3, .slice A0_4 l0_4.length c0_4, .slice A0_5 l0_5.length c0_5] 36 (0, 0)) (by (with_reducible repeat (first | refine kQN ?_ _ | refine kQD ?_ | refine kQA ?_ _)); refine kQR ?_ NB467_493.out _; (with_reducible repeat (first | refine kQN ?_ _ | refine kQD ?_ | refine kQA ?_ _)); refine kQR ?_ NB467_493.out _; (with_reducible repeat (first | refine kQN ?_ _ | refine kQD ?_ | refine kQA ?_ _)); refine kQR ?_ NB467_493.out _; (with_reducible repeat (first | refine kQN ?_ _ | refine kQD ?_ | refine kQA ?_ _)); refine kQR ?_ NB467_493.out _; (with_reducible repeat (first | refine kQN ?_ _ | refine kQD ?_ | refine kQA ?_ _)); refine kQR ?_ NB467_493.out _; (with_reducible repeat (first | refine kQN ?_ _ | refine kQD ?_ | refine kQA ?_ _)); refine kQR ?_ NB467_493.out _; (with_reducible repeat (first | refine kQN ?_ _ | refine kQD ?_ | refine kQA ?_ _)); exact BK467.out) hb); have n7_ := Aq.mk (kQB (g := gb493) (o := .cells #[.int .i64 t483, .int .i64 t484, .int .i64 t485, .int .i64 t486, .slice Ao26 t487.length co26, .slice Ao27 t490.length co27] 42 (0, 0)) (by (with_reducible repeat (first | refine kQN ?_ _ | refine kQD ?_ | refine kQA ?_ _)); refine kQP (cs := #[.int .i64 t483, .int .i64 t484, .int .i64 t485, .int .i64 t486, .slice Ao26 t487.length co26, .slice none 0 0]) ?_ 5 _ rfl; (with_reducible repeat (first | refine kQN ?_ _ | refine kQD ?_ | refine kQA ?_ _)); refine kQP (cs := #[.int .i64 t483, .int .i64 t484, .int .i64 t485, .int .i64 t486, .slice none 0 0, .slice none 0 0]) ?_ 4 _ rfl; (with_reducible repeat (first | refine kQN ?_ _ | refine kQD ?_ | refine kQA ?_ _)); refine kQP (cs := #[.int .i64 t483, .int .i64 t484, .int .i64 t485, .int .i64 0, .slice none 0 0, .slice none 0 0]) ?_ 3 _ rfl; (with_reducible repeat (first | refine kQN ?_ _ | refine kQD ?_ | refine kQA ?_ _)); refine kQP (cs := #[.int .i64 t483, .int .i64 t484, .int .i64 0, .int .i64 0, .slice none 0 0, .slice none 0 0]) ?_ 2 _ rfl; (with_reducible repeat (first | refine kQN ?_ _ | refine kQD ?_ | refine kQA ?_ _)); refine kQP (cs := #[.int .i64 t483, .int .i64 0, .int .i64 0, .int .i64 0, .slice none 0 0, .slice none 0 0]) ?_ 1 _ rfl; (with_reducible repeat (first | refine kQN ?_ _ | refine kQD ?_ | refine kQA ?_ _)); refine kQP (cs := #[.int .i64 0, .int .i64 0, .int .i64 0, .int .i64 0, .slice none 0 0, .slice none 0 0]) ?_ 0 _ rfl; (with_reducible repeat (first | refine kQN ?_ _ | refine kQD ?_ | refine kQA ?_ _)); exact BK493.out) hb); have n8_ := Aq.mk (bQT tB hb); have gq_ := Aq.mk (bQT (by repeat (first | (with_reducible first | exact GB4.out | apply bQA | apply bQN | apply bQ1 | refine bQS ?_ G493.out) | exact GB4.out)) hb); clear GB4; have GB4 := gq_; clear gq_; clear HO475; clear HO478; clear HO481; clear HO489; clear HO492; clear BK467; clear BK493; clear HB; have HO475 := n0_; have HO478 := n1_; have HO481 := n2_; have HO489 := n3_; have HO492 := n4_; have HO496 := n5_; have BK467 := n6_; have BK493 := n7_; have HB := n8_; clear n0_ n1_ n2_ n3_ n4_ n5_ n6_ n7_ n8_; (try clear hb); (try clear hb2); (try clear hk); (try clear hi); (try clear ho0)))
 (try simp only [Act.put, qSa, qSb, qSc])
 go_cut [44] (fun v44 wc => ∃ (kq : Nat) (x44_11 : Bool), v44 = .bool x44_11 ∧ Aq (laws_FnExactEdgesInto.j0 kq a1 t479 t482 t494 t497 x44_11 a0_0 a0_1 a0_2 a0_3 l0_4 l0_5 t483 t484 t485 t486 t487 t490 = some r) ∧ Aq (kq ≤ k) ∧ Aq (Kd.R (Kd.int .i64) 2 wc w.heap.size (fun k_ => some k_ ≠ (v495 : Value).ownBlock) v480 t479) ∧ Aq (Kd.R (Kd.int .i64) 2 wc w.heap.size (fun k_ => some k_ ≠ (v480 : Value).ownBlock) v495 t494) ∧ Aq (Kd.S (Kd.slice 2 (Kd.int .i64)) 38 wc w.heap.size (fun k_ => some k_ ≠ (v480 : Value).ownBlock ∧ some k_ ≠ (v495 : Value).ownBlock ∧ some k_ ≠ ((.slice Ao27 t490.length co27) : Value).ownBlock) (.slice Ao26 t487.length co26) t487) ∧ Aq (Kd.S (Kd.slice 2 (Kd.int .i64)) 38 wc w.heap.size (fun k_ => some k_ ≠ (v480 : Value).ownBlock ∧ some k_ ≠ (v495 : Value).ownBlock ∧ some k_ ≠ ((.slice Ao26 t487.length co26) : Value).ownBlock) (.slice Ao27 t490.length co27) t490) ∧ Aq (wc.heap[gb467]? = some (.cells #[.int .i64 a0_0, .int .i64 a0_1, .int .i64 a0_2, .int .i64 a0_3, (.slice A0_4 l0_4.length c0_4), (.slice A0_5 l0_5.length c0_5)] 36 (0, 0))) ∧ Aq (wc.heap[gb493]? = some (.cells #[.int .i64 t483, .int .i64 t484, .int .i64 t485, .int .i64 t486, (.slice Ao26 t487.length co26), (.slice Ao27 t490.length co27)] 42 (0, 0))) ∧ Aq (Below w.heap.size w wc) ∧ Aq (Below w22.heap.size w22 wc))
 case first =>
  have H := HC12.out
  clear HC12
  obtain ⟨t498, A29, H⟩ := qBd H
  by_cases c30 : t498 = true
  ·subst c30
   rw [if_pos rfl] at H
   replace H' := Aq.mk H
   clear H
   obtain ⟨Ao31, co31, eo31⟩ := Kd.R_slice HO496.out
   subst eo31
   obtain ⟨Ao32, co32, eo32⟩ := Kd.R_slice HO481.out
   subst eo32
   go_wp2_with (first | ((with_reducible refine gQc (f := 22) rfl ?_); refine goesL_ (some 38) rfl rfl Try.func22 (by kernel_rfl) rfl #[.slice Ao31 t494.length co31, .slice Ao32 t479.length co32] rfl tL ?_; (with_reducible refine (laws_eqInt64S.calls k _ _ t494 _ _ t479 true _ ?s1 ?s2 ?s3 ?s4 A29.out).mono ?_); (case s1 => exact tC ((Kd.R_reads' HO496.out).2.2)); (case s2 => exact (Kd.R_reads' HO496.out).2.1); (case s3 => exact tC ((Kd.R_reads' HO481.out).2.2)); (case s4 => exact (Kd.R_reads' HO481.out).2.1); rintro e w' ⟨rfl, ⟨nd, rfl⟩⟩; refine ⟨_, rfl, ?_⟩))
   go_meet
   case rel => exact ⟨_, ((t497 != t482)), tS, H', ⟨tO⟩, ⟨by (with_reducible repeat (first | apply Kd.RqA | apply Kd.RqN | apply Kd.RqD)); exact Kd.R_mono HO481.out (fun _ hk => hk.2)⟩, ⟨by (with_reducible repeat (first | apply Kd.RqA | apply Kd.RqN | apply Kd.RqD)); exact Kd.R_mono HO496.out (fun _ hk => hk.2)⟩, ⟨by (with_reducible repeat (first | apply Kd.S_alloc | apply Kd.S_drewN | apply Kd.S_drew)); exact Kd.S_mono HO489.out (fun _ hk => ⟨hk.1.2, ⟨hk.2, hk.1.1.1.1⟩⟩)⟩, ⟨by (with_reducible repeat (first | apply Kd.S_alloc | apply Kd.S_drewN | apply Kd.S_drew)); exact Kd.S_mono HO492.out (fun _ hk => ⟨hk.1.2, ⟨hk.2, hk.1.1.1.1⟩⟩)⟩, ⟨tG BK467.out⟩, ⟨tG BK493.out⟩, ⟨tB⟩, ⟨(by repeat (first | (with_reducible first | exact GB4.out | apply bQA | apply bQN | apply bQ1 | refine bQS ?_ G493.out) | exact GB4.out))⟩⟩
  replace c30 := Bool.eq_false_iff.mpr c30
  subst c30
  rw [if_neg (show ¬ (false = true) by decide)] at H
  replace H' := Aq.mk H
  clear H
  obtain ⟨Ao33, co33, eo33⟩ := Kd.R_slice HO496.out
  subst eo33
  obtain ⟨Ao34, co34, eo34⟩ := Kd.R_slice HO481.out
  subst eo34
  go_wp2_with (first | ((with_reducible refine gQc (f := 22) rfl ?_); refine goesL_ (some 38) rfl rfl Try.func22 (by kernel_rfl) rfl #[.slice Ao33 t494.length co33, .slice Ao34 t479.length co34] rfl tL ?_; (with_reducible refine (laws_eqInt64S.calls k _ _ t494 _ _ t479 false _ ?s1 ?s2 ?s3 ?s4 A29.out).mono ?_); (case s1 => exact tC ((Kd.R_reads' HO496.out).2.2)); (case s2 => exact (Kd.R_reads' HO496.out).2.1); (case s3 => exact tC ((Kd.R_reads' HO481.out).2.2)); (case s4 => exact (Kd.R_reads' HO481.out).2.1); rintro e w' ⟨rfl, ⟨nd, rfl⟩⟩; refine ⟨_, rfl, ?_⟩))
  go_meet
  case rel => exact ⟨_, (true), tS, H', ⟨tO⟩, ⟨by (with_reducible repeat (first | apply Kd.RqA | apply Kd.RqN | apply Kd.RqD)); exact Kd.R_mono HO481.out (fun _ hk => hk.2)⟩, ⟨by (with_reducible repeat (first | apply Kd.RqA | apply Kd.RqN | apply Kd.RqD)); exact Kd.R_mono HO496.out (fun _ hk => hk.2)⟩, ⟨by (with_reducible repeat (first | apply Kd.S_alloc | apply Kd.S_drewN | apply Kd.S_drew)); exact Kd.S_mono HO489.out (fun _ hk => ⟨hk.1.2, ⟨hk.2, hk.1.1.1.1⟩⟩)⟩, ⟨by (with_reducible repeat (first | apply Kd.S_alloc | apply Kd.S_drewN | apply Kd.S_drew)); exact Kd.S_mono HO492.out (fun _ hk => ⟨hk.1.2, ⟨hk.2, hk.1.1.1.1⟩⟩)⟩, ⟨tG BK467.out⟩, ⟨tG BK493.out⟩, ⟨tB⟩, ⟨(by repeat (first | (with_reducible first | exact GB4.out | apply bQA | apply bQN | apply bQ1 | refine bQS ?_ G493.out) | exact GB4.out))⟩⟩
 clear HC12
 try clear c4
 try clear c4b0
 try clear c30
 try clear hcz14_0
 try clear hcz14_1
 try clear hcz14_2
 try clear hcz14_3
 try clear hcz14_4
 try clear hcz14_5
 try clear hcz16_0
 try clear hcz16_1
 try clear hcz16_2
 try clear hcz16_3
 try clear hcz16_4
 try clear hcz16_5
 try clear hcz21_0
 try clear hcz21_1
 try clear hcz21_2
 try clear hcz21_3
 try clear hcz21_4
 try clear hcz21_5
 try clear hcz25_0
 try clear hcz25_1
 try clear hcz25_2
 try clear hcz25_3
 try clear hcz25_4
 try clear hcz25_5
 try clear hcz6_0
 try clear hcz6_1
 try clear hcz6_2
 try clear hcz6_3
 try clear hcz6_4
 try clear hcz6_5
 try clear hfz14_0
 try clear hfz14_1
 try clear hfz14_2
 try clear hfz14_3
 try clear hfz14_4
 try clear hfz14_5
 try clear hfz16_0
 try clear hfz16_1
 try clear hfz16_2
 try clear hfz16_3
 try clear hfz16_4
 try clear hfz16_5
 try clear hfz21_0
 try clear hfz21_1
 try clear hfz21_2
 try clear hfz21_3
 try clear hfz21_4
 try clear hfz21_5
 try clear hfz25_0
 try clear hfz25_1
 try clear hfz25_2
 try clear hfz25_3
 try clear hfz25_4
 try clear hfz25_5
 try clear hfz6_0
 try clear hfz6_1
 try clear hfz6_2
 try clear hfz6_3
 try clear hfz6_4
 try clear hfz6_5
 obtain ⟨kq, x44_11, rfl, HA, HJ11, HO_6, HO_9, HO_494004, HO_494005, BK467, BK493, HB, GB4⟩ := hcut
 cases kq with
 | zero => exact absurd HA.out (by simp [laws_FnExactEdgesInto.j0])
 | succ kj11 =>
  have H := HA.out
  clear HA
  simp only [laws_FnExactEdgesInto.j0] at H
  by_cases c35 : x44_11 = true
  ·subst c35
   rw [if_pos rfl] at H
   obtain rfl := Option.some.inj H
   go_wp2
   go_ret
   exact ⟨tE, tB⟩
  replace c35 := Bool.eq_false_iff.mpr c35
  subst c35
  rw [if_neg (show ¬ (false = true) by decide)] at H
  obtain ⟨⟨t499, t500, t501, t502, t503, t506⟩, A36, H⟩ := qBd H
  (try dsimp only at H)
  obtain ⟨t509, A37, H⟩ := qBd H
  by_cases c38 : t509 = true
  rotate_left
  ·replace c38 := Bool.eq_false_iff.mpr c38
   subst c38
   rw [if_neg (show ¬ (false = true) by decide)] at H
   obtain rfl := Option.some.inj H
   try go_wp2
   have n0_ := Aq.mk (Kd.RqD HO_6.out)
   have n1_ := Aq.mk (Kd.RqD HO_9.out)
   have n2_ := Aq.mk (Kd.S_drew HO_494004.out)
   have n3_ := Aq.mk (Kd.S_drew HO_494005.out)
   have n4_ := Aq.mk (kQD BK467.out)
   have n5_ := Aq.mk (kQD BK493.out)
   have n6_ := Aq.mk (bQ1 HB.out)
   clear HO_6
   clear HO_9
   clear HO_494004
   clear HO_494005
   clear BK467
   clear BK493
   clear HB
   have HO_6 := n0_
   have HO_9 := n1_
   have HO_494004 := n2_
   have HO_494005 := n3_
   have BK467 := n4_
   have BK493 := n5_
   have HB := n6_
   clear n0_ n1_ n2_ n3_ n4_ n5_ n6_
   refine start_ (n := 5) (S := fun w' => w'.cell? ⟨gb493, 0, none⟩ = some (.int .i64 t483) ∧ w'.cell? ⟨gb493, 1, none⟩ = some (.int .i64 t484) ∧ w'.cell? ⟨gb493, 2, none⟩ = some (.int .i64 t485) ∧ w'.cell? ⟨gb493, 3, none⟩ = some (.int .i64 t486) ∧ w'.cell? ⟨gb493, 4, none⟩ = some (.slice Ao26 t487.length co26) ∧ w'.cell? ⟨gb493, 5, none⟩ = some (.slice Ao27 t490.length co27) ∧ w'.cell? ⟨gb467, 0, none⟩ = some (.int .i64 a0_0) ∧ w'.cell? ⟨gb467, 1, none⟩ = some (.int .i64 a0_1) ∧ w'.cell? ⟨gb467, 2, none⟩ = some (.int .i64 a0_2) ∧ w'.cell? ⟨gb467, 3, none⟩ = some (.int .i64 a0_3) ∧ w'.cell? ⟨gb467, 4, none⟩ = some (.slice A0_4 l0_4.length c0_4) ∧ w'.cell? ⟨gb467, 5, none⟩ = some (.slice A0_5 l0_5.length c0_5)) (ds := []) #[false, false, false, false, false] (by kernel_rfl) rfl rfl ⟨(kQC BK493.out 0).trans rfl, (kQC BK493.out 1).trans rfl, (kQC BK493.out 2).trans rfl, (kQC BK493.out 3).trans rfl, (kQC BK493.out 4).trans rfl, (kQC BK493.out 5).trans rfl, (kQC BK467.out 0).trans rfl, (kQC BK467.out 1).trans rfl, (kQC BK467.out 2).trans rfl, (kQC BK467.out 3).trans rfl, (kQC BK467.out 4).trans rfl, (kQC BK467.out 5).trans rfl⟩ (fun hHeld => ?_)
   generalize wc.drew = w86 at HO_6 HO_9 HO_494004 HO_494005 BK467 BK493 HB hHeld ⊢
   refine tT12k 0 45 (bm 5 1) ?_
   refine tT12k 1 46 (bm 5 3) ?_
   refine one_ (i := 2) (N := some 47) (bm 5 7) rfl rfl (by kernel_rfl) (by decide) (fun K hK => ?_)
   refine goes_ Try.func20 (by kernel_rfl) rfl #[.agg #[.int .i64 a0_0, .int .i64 a0_1, .int .i64 a0_2, .int .i64 a0_3, .slice A0_4 l0_4.length c0_4, .slice A0_5 l0_5.length c0_5]] (by rfl) rfl rfl tL ?_
   with_reducible refine (laws_toNet.calls kj11 a0_0 a0_1 a0_2 a0_3 _ _ l0_4 _ _ l0_5 t499 t500 t501 t502 t503 t506 _ ?s1 ?s2 ?s3 ?s4 A36.out).mono ?_
   (case s1 => exact tC ((Kd.C_below HR0_4.out HB.out)))
   (case s2 => exact HC0_4.out)
   (case s3 => exact tC ((Kd.C_below HR0_5.out HB.out)))
   (case s4 => exact HC0_5.out)
   rintro e w87 ⟨v504, v507, rfl, ho0, ho1, hb⟩
   refine ⟨_, rfl, ?_⟩
   have n0_ := Aq.mk (Kd.R_below (tR HO_6.out) hb)
   have n1_ := Aq.mk (Kd.R_below (tR HO_9.out) hb)
   have n2_ := Aq.mk (Kd.S_mono (Kd.S_told (Kd.S_told (Kd.S_old (by (with_reducible repeat (first | apply Kd.S_alloc | apply Kd.S_drewN | apply Kd.S_drew)); exact HO_494004.out) hb) (Kd.S_base ho0)) (Kd.S_base ho1)) (fun _ h_ => h_.1))
   have n3_ := Aq.mk (Kd.S_mono (Kd.S_told (Kd.S_told (Kd.S_old (by (with_reducible repeat (first | apply Kd.S_alloc | apply Kd.S_drewN | apply Kd.S_drew)); exact HO_494005.out) hb) (Kd.S_base ho0)) (Kd.S_base ho1)) (fun _ h_ => h_.1))
   have n4_ := Aq.mk (Kd.S_lower (Kd.S_new' (Kd.S_new' (Kd.S_new' (Kd.S_new' ho0 (Kd.R_lt (tR HO_6.out))) (Kd.R_lt (tR HO_9.out))) (Kd.S_lt (by (with_reducible repeat (first | apply Kd.S_alloc | apply Kd.S_drewN | apply Kd.S_drew)); exact HO_494004.out))) (Kd.S_lt (by (with_reducible repeat (first | apply Kd.S_alloc | apply Kd.S_drewN | apply Kd.S_drew)); exact HO_494005.out))) (bQZ tB))
   have n5_ := Aq.mk (Kd.S_lower (Kd.S_new' (Kd.S_new' (Kd.S_new' (Kd.S_new' ho1 (Kd.R_lt (tR HO_6.out))) (Kd.R_lt (tR HO_9.out))) (Kd.S_lt (by (with_reducible repeat (first | apply Kd.S_alloc | apply Kd.S_drewN | apply Kd.S_drew)); exact HO_494004.out))) (Kd.S_lt (by (with_reducible repeat (first | apply Kd.S_alloc | apply Kd.S_drewN | apply Kd.S_drew)); exact HO_494005.out))) (bQZ tB))
   have n6_ := Aq.mk (tQ BK467.out hb)
   have n7_ := Aq.mk (tQ BK493.out hb)
   have n8_ := Aq.mk (bQT tB hb)
   clear HO_6
   clear HO_9
   clear HO_494004
   clear HO_494005
   clear BK467
   clear BK493
   clear HB
   have HO_6 := n0_
   have HO_9 := n1_
   have HO_494004 := n2_
   have HO_494005 := n3_
   have HO505 := n4_
   have HO508 := n5_
   have BK467 := n6_
   have BK493 := n7_
   have HB := n8_
   clear n0_ n1_ n2_ n3_ n4_ n5_ n6_ n7_ n8_
   (try clear hb)
   (try clear hb2)
   (try clear hk)
   (try clear hi)
   (try clear ho0)
   (try clear ho1)
   obtain ⟨Ao88, co88, eo88⟩ := Kd.S_slice HO505.out
   (first | subst eo88 | (injection eo88 with f1_ f2_ f3_; have f4_ := f1_.symm; have f5_ := f3_.symm; clear f1_ f2_ f3_; subst f4_; subst f5_))
   obtain ⟨Ao89, co89, eo89⟩ := Kd.S_slice HO508.out
   (first | subst eo89 | (injection eo89 with f1_ f2_ f3_; have f4_ := f1_.symm; have f5_ := f3_.symm; clear f1_ f2_ f3_; subst f4_; subst f5_))
   refine hK.out _ _ ⟨(kQC BK493.out 0).trans rfl, (kQC BK493.out 1).trans rfl, (kQC BK493.out 2).trans rfl, (kQC BK493.out 3).trans rfl, (kQC BK493.out 4).trans rfl, (kQC BK493.out 5).trans rfl, (kQC BK467.out 0).trans rfl, (kQC BK467.out 1).trans rfl, (kQC BK467.out 2).trans rfl, (kQC BK467.out 3).trans rfl, (kQC BK467.out 4).trans rfl, (kQC BK467.out 5).trans rfl⟩ (fun hHeld => ?_)
   clear hK K
   refine tN 47 ?_
   refine one_ (i := 3) (N := some 48) (bm 5 15) rfl rfl (by kernel_rfl) (by decide) (fun K hK => ?_)
   refine goes_ Try.func23 (by kernel_rfl) rfl #[.agg #[.int .i64 t483, .int .i64 t484, .int .i64 t485, .int .i64 t486, .slice Ao26 t487.length co26, .slice Ao27 t490.length co27], .agg #[.int .i64 t499, .int .i64 t500, .int .i64 t501, .int .i64 t502, .slice Ao88 t503.length co88, .slice Ao89 t506.length co89]] (by rfl) rfl rfl tL ?_
   with_reducible refine (laws_eqNet.calls kj11 t483 t484 t485 t486 _ _ t487 _ _ t490 t499 t500 t501 t502 _ _ t503 _ _ t506 false _ ?s1 ?s2 ?s3 ?s4 ?s5 ?s6 ?s7 ?s8 A37.out).mono ?_
   (case s1 => exact tC ((Kd.S_reads' HO_494004.out).2.2))
   (case s2 => exact (Kd.S_reads' HO_494004.out).2.1)
   (case s3 => exact tC ((Kd.S_reads' HO_494005.out).2.2))
   (case s4 => exact (Kd.S_reads' HO_494005.out).2.1)
   (case s5 => exact tC ((Kd.S_reads' HO505.out).2.2))
   (case s6 => exact (Kd.S_reads' HO505.out).2.1)
   (case s7 => exact tC ((Kd.S_reads' HO508.out).2.2))
   (case s8 => exact (Kd.S_reads' HO508.out).2.1)
   rintro e w90 ⟨rfl, hb⟩
   refine ⟨_, rfl, ?_⟩
   have n0_ := Aq.mk (Kd.R_below (tR HO_6.out) hb)
   have n1_ := Aq.mk (Kd.R_below (tR HO_9.out) hb)
   have n2_ := Aq.mk (Kd.S_below (by (with_reducible repeat (first | apply Kd.S_alloc | apply Kd.S_drewN | apply Kd.S_drew)); exact HO_494004.out) hb)
   have n3_ := Aq.mk (Kd.S_below (by (with_reducible repeat (first | apply Kd.S_alloc | apply Kd.S_drewN | apply Kd.S_drew)); exact HO_494005.out) hb)
   have n4_ := Aq.mk (Kd.S_below (by (with_reducible repeat (first | apply Kd.S_alloc | apply Kd.S_drewN | apply Kd.S_drew)); exact HO505.out) hb)
   have n5_ := Aq.mk (Kd.S_below (by (with_reducible repeat (first | apply Kd.S_alloc | apply Kd.S_drewN | apply Kd.S_drew)); exact HO508.out) hb)
   have n6_ := Aq.mk (tQ BK467.out hb)
   have n7_ := Aq.mk (tQ BK493.out hb)
   have n8_ := Aq.mk (bQT tB hb)
   clear HO_6
   clear HO_9
   clear HO_494004
   clear HO_494005
   clear HO505
   clear HO508
   clear BK467
   clear BK493
   clear HB
   have HO_6 := n0_
   have HO_9 := n1_
   have HO_494004 := n2_
   have HO_494005 := n3_
   have HO505 := n4_
   have HO508 := n5_
   have BK467 := n6_
   have BK493 := n7_
   have HB := n8_
   clear n0_ n1_ n2_ n3_ n4_ n5_ n6_ n7_ n8_
   (try clear hb)
   (try clear hb2)
   (try clear hk)
   (try clear hi)
   refine hK.out _ _ ⟨(kQC BK493.out 0).trans rfl, (kQC BK493.out 1).trans rfl, (kQC BK493.out 2).trans rfl, (kQC BK493.out 3).trans rfl, (kQC BK493.out 4).trans rfl, (kQC BK493.out 5).trans rfl, (kQC BK467.out 0).trans rfl, (kQC BK467.out 1).trans rfl, (kQC BK467.out 2).trans rfl, (kQC BK467.out 3).trans rfl, (kQC BK467.out 4).trans rfl, (kQC BK467.out 5).trans rfl⟩ (fun hHeld => ?_)
   clear hK K
   refine tN 48 ?_
   refine tP0k 4 49 (bm 5 31) ?_
   refine done_ (by kernel_rfl) ?_
   try go_wp2
   go_ret
   exact ⟨tE, tB⟩
  subst c38
  rw [if_pos rfl] at H
  obtain ⟨⟨t510, tm1, tm2⟩, A39, H⟩ := qBd H
  (try dsimp only at H)
  have HC40 := Aq.mk H
  clear H
  try go_wp2
  have n0_ := Aq.mk (Kd.RqD HO_6.out)
  have n1_ := Aq.mk (Kd.RqD HO_9.out)
  have n2_ := Aq.mk (Kd.S_drew HO_494004.out)
  have n3_ := Aq.mk (Kd.S_drew HO_494005.out)
  have n4_ := Aq.mk (kQD BK467.out)
  have n5_ := Aq.mk (kQD BK493.out)
  have n6_ := Aq.mk (bQ1 HB.out)
  have gq_ := Aq.mk (bQ1 GB4.out)
  clear GB4
  have GB4 := gq_
  clear gq_
  clear HO_6
  clear HO_9
  clear HO_494004
  clear HO_494005
  clear BK467
  clear BK493
  clear HB
  have HO_6 := n0_
  have HO_9 := n1_
  have HO_494004 := n2_
  have HO_494005 := n3_
  have BK467 := n4_
  have BK493 := n5_
  have HB := n6_
  clear n0_ n1_ n2_ n3_ n4_ n5_ n6_
  refine start_ (n := 5) (S := fun w' => w'.cell? ⟨gb493, 0, none⟩ = some (.int .i64 t483) ∧ w'.cell? ⟨gb493, 1, none⟩ = some (.int .i64 t484) ∧ w'.cell? ⟨gb493, 2, none⟩ = some (.int .i64 t485) ∧ w'.cell? ⟨gb493, 3, none⟩ = some (.int .i64 t486) ∧ w'.cell? ⟨gb493, 4, none⟩ = some (.slice Ao26 t487.length co26) ∧ w'.cell? ⟨gb493, 5, none⟩ = some (.slice Ao27 t490.length co27) ∧ w'.cell? ⟨gb467, 0, none⟩ = some (.int .i64 a0_0) ∧ w'.cell? ⟨gb467, 1, none⟩ = some (.int .i64 a0_1) ∧ w'.cell? ⟨gb467, 2, none⟩ = some (.int .i64 a0_2) ∧ w'.cell? ⟨gb467, 3, none⟩ = some (.int .i64 a0_3) ∧ w'.cell? ⟨gb467, 4, none⟩ = some (.slice A0_4 l0_4.length c0_4) ∧ w'.cell? ⟨gb467, 5, none⟩ = some (.slice A0_5 l0_5.length c0_5)) (ds := []) #[false, false, false, false, false] (by kernel_rfl) rfl rfl ⟨(kQC BK493.out 0).trans rfl, (kQC BK493.out 1).trans rfl, (kQC BK493.out 2).trans rfl, (kQC BK493.out 3).trans rfl, (kQC BK493.out 4).trans rfl, (kQC BK493.out 5).trans rfl, (kQC BK467.out 0).trans rfl, (kQC BK467.out 1).trans rfl, (kQC BK467.out 2).trans rfl, (kQC BK467.out 3).trans rfl, (kQC BK467.out 4).trans rfl, (kQC BK467.out 5).trans rfl⟩ (fun hHeld => ?_)
  generalize wc.drew = w41 at GB4 HO_6 HO_9 HO_494004 HO_494005 BK467 BK493 HB hHeld ⊢
  refine tT12k 0 45 (bm 5 1) ?_
  refine tT12k 1 46 (bm 5 3) ?_
  refine one_ (i := 2) (N := some 47) (bm 5 7) rfl rfl (by kernel_rfl) (by decide) (fun K hK => ?_)
  refine goes_ Try.func20 (by kernel_rfl) rfl #[.agg #[.int .i64 a0_0, .int .i64 a0_1, .int .i64 a0_2, .int .i64 a0_3, .slice A0_4 l0_4.length c0_4, .slice A0_5 l0_5.length c0_5]] (by rfl) rfl rfl tL ?_
  with_reducible refine (laws_toNet.calls kj11 a0_0 a0_1 a0_2 a0_3 _ _ l0_4 _ _ l0_5 t499 t500 t501 t502 t503 t506 _ ?s1 ?s2 ?s3 ?s4 A36.out).mono ?_
  (case s1 => exact tC ((Kd.C_below HR0_4.out HB.out)))
  (case s2 => exact HC0_4.out)
  (case s3 => exact tC ((Kd.C_below HR0_5.out HB.out)))
  (case s4 => exact HC0_5.out)
  rintro e w42 ⟨v504, v507, rfl, ho0, ho1, hb⟩
  refine ⟨_, rfl, ?_⟩
  have n0_ := Aq.mk (Kd.R_below (tR HO_6.out) hb)
  have n1_ := Aq.mk (Kd.R_below (tR HO_9.out) hb)
  have n2_ := Aq.mk (Kd.S_mono (Kd.S_told (Kd.S_told (Kd.S_old (by (with_reducible repeat (first | apply Kd.S_alloc | apply Kd.S_drewN | apply Kd.S_drew)); exact HO_494004.out) hb) (Kd.S_base ho0)) (Kd.S_base ho1)) (fun _ h_ => h_.1))
  have n3_ := Aq.mk (Kd.S_mono (Kd.S_told (Kd.S_told (Kd.S_old (by (with_reducible repeat (first | apply Kd.S_alloc | apply Kd.S_drewN | apply Kd.S_drew)); exact HO_494005.out) hb) (Kd.S_base ho0)) (Kd.S_base ho1)) (fun _ h_ => h_.1))
  have n4_ := Aq.mk (Kd.S_lower (Kd.S_new' (Kd.S_new' (Kd.S_new' (Kd.S_new' ho0 (Kd.R_lt (tR HO_6.out))) (Kd.R_lt (tR HO_9.out))) (Kd.S_lt (by (with_reducible repeat (first | apply Kd.S_alloc | apply Kd.S_drewN | apply Kd.S_drew)); exact HO_494004.out))) (Kd.S_lt (by (with_reducible repeat (first | apply Kd.S_alloc | apply Kd.S_drewN | apply Kd.S_drew)); exact HO_494005.out))) (bQZ tB))
  have n5_ := Aq.mk (Kd.S_lower (Kd.S_new' (Kd.S_new' (Kd.S_new' (Kd.S_new' ho1 (Kd.R_lt (tR HO_6.out))) (Kd.R_lt (tR HO_9.out))) (Kd.S_lt (by (with_reducible repeat (first | apply Kd.S_alloc | apply Kd.S_drewN | apply Kd.S_drew)); exact HO_494004.out))) (Kd.S_lt (by (with_reducible repeat (first | apply Kd.S_alloc | apply Kd.S_drewN | apply Kd.S_drew)); exact HO_494005.out))) (bQZ tB))
  have n6_ := Aq.mk (tQ BK467.out hb)
  have n7_ := Aq.mk (tQ BK493.out hb)
  have n8_ := Aq.mk (bQT tB hb)
  have gq_ := Aq.mk (bQT (by repeat (first | (with_reducible first | exact GB4.out | apply bQA | apply bQN | apply bQ1 | refine bQS ?_ G493.out) | exact GB4.out)) hb)
  clear GB4
  have GB4 := gq_
  clear gq_
  clear HO_6
  clear HO_9
  clear HO_494004
  clear HO_494005
  clear BK467
  clear BK493
  clear HB
  have HO_6 := n0_
  have HO_9 := n1_
  have HO_494004 := n2_
  have HO_494005 := n3_
  have HO505 := n4_
  have HO508 := n5_
  have BK467 := n6_
  have BK493 := n7_
  have HB := n8_
  clear n0_ n1_ n2_ n3_ n4_ n5_ n6_ n7_ n8_
  (try clear hb)
  (try clear hb2)
  (try clear hk)
  (try clear hi)
  (try clear ho0)
  (try clear ho1)
  obtain ⟨Ao43, co43, eo43⟩ := Kd.S_slice HO505.out
  (first | subst eo43 | (injection eo43 with f1_ f2_ f3_; have f4_ := f1_.symm; have f5_ := f3_.symm; clear f1_ f2_ f3_; subst f4_; subst f5_))
  obtain ⟨Ao44, co44, eo44⟩ := Kd.S_slice HO508.out
  (first | subst eo44 | (injection eo44 with f1_ f2_ f3_; have f4_ := f1_.symm; have f5_ := f3_.symm; clear f1_ f2_ f3_; subst f4_; subst f5_))
  refine hK.out _ _ ⟨(kQC BK493.out 0).trans rfl, (kQC BK493.out 1).trans rfl, (kQC BK493.out 2).trans rfl, (kQC BK493.out 3).trans rfl, (kQC BK493.out 4).trans rfl, (kQC BK493.out 5).trans rfl, (kQC BK467.out 0).trans rfl, (kQC BK467.out 1).trans rfl, (kQC BK467.out 2).trans rfl, (kQC BK467.out 3).trans rfl, (kQC BK467.out 4).trans rfl, (kQC BK467.out 5).trans rfl⟩ (fun hHeld => ?_)
  clear hK K
  refine tN 47 ?_
  refine one_ (i := 3) (N := some 48) (bm 5 15) rfl rfl (by kernel_rfl) (by decide) (fun K hK => ?_)
  refine goes_ Try.func23 (by kernel_rfl) rfl #[.agg #[.int .i64 t483, .int .i64 t484, .int .i64 t485, .int .i64 t486, .slice Ao26 t487.length co26, .slice Ao27 t490.length co27], .agg #[.int .i64 t499, .int .i64 t500, .int .i64 t501, .int .i64 t502, .slice Ao43 t503.length co43, .slice Ao44 t506.length co44]] (by rfl) rfl rfl tL ?_
  with_reducible refine (laws_eqNet.calls kj11 t483 t484 t485 t486 _ _ t487 _ _ t490 t499 t500 t501 t502 _ _ t503 _ _ t506 true _ ?s1 ?s2 ?s3 ?s4 ?s5 ?s6 ?s7 ?s8 A37.out).mono ?_
  (case s1 => exact tC ((Kd.S_reads' HO_494004.out).2.2))
  (case s2 => exact (Kd.S_reads' HO_494004.out).2.1)
  (case s3 => exact tC ((Kd.S_reads' HO_494005.out).2.2))
  (case s4 => exact (Kd.S_reads' HO_494005.out).2.1)
  (case s5 => exact tC ((Kd.S_reads' HO505.out).2.2))
  (case s6 => exact (Kd.S_reads' HO505.out).2.1)
  (case s7 => exact tC ((Kd.S_reads' HO508.out).2.2))
  (case s8 => exact (Kd.S_reads' HO508.out).2.1)
  rintro e w45 ⟨rfl, hb⟩
  refine ⟨_, rfl, ?_⟩
  have n0_ := Aq.mk (Kd.R_below (tR HO_6.out) hb)
  have n1_ := Aq.mk (Kd.R_below (tR HO_9.out) hb)
  have n2_ := Aq.mk (Kd.S_below (by (with_reducible repeat (first | apply Kd.S_alloc | apply Kd.S_drewN | apply Kd.S_drew)); exact HO_494004.out) hb)
  have n3_ := Aq.mk (Kd.S_below (by (with_reducible repeat (first | apply Kd.S_alloc | apply Kd.S_drewN | apply Kd.S_drew)); exact HO_494005.out) hb)
  have n4_ := Aq.mk (Kd.S_below (by (with_reducible repeat (first | apply Kd.S_alloc | apply Kd.S_drewN | apply Kd.S_drew)); exact HO505.out) hb)
  have n5_ := Aq.mk (Kd.S_below (by (with_reducible repeat (first | apply Kd.S_alloc | apply Kd.S_drewN | apply Kd.S_drew)); exact HO508.out) hb)
  have n6_ := Aq.mk (tQ BK467.out hb)
  have n7_ := Aq.mk (tQ BK493.out hb)
  have n8_ := Aq.mk (bQT tB hb)
  have gq_ := Aq.mk (bQT (by repeat (first | (with_reducible first | exact GB4.out | apply bQA | apply bQN | apply bQ1 | refine bQS ?_ G493.out) | exact GB4.out)) hb)
  clear GB4
  have GB4 := gq_
  clear gq_
  clear HO_6
  clear HO_9
  clear HO_494004
  clear HO_494005
  clear HO505
  clear HO508
  clear BK467
  clear BK493
  clear HB
  have HO_6 := n0_
  have HO_9 := n1_
  have HO_494004 := n2_
  have HO_494005 := n3_
  have HO505 := n4_
  have HO508 := n5_
  have BK467 := n6_
  have BK493 := n7_
  have HB := n8_
  clear n0_ n1_ n2_ n3_ n4_ n5_ n6_ n7_ n8_
  (try clear hb)
  (try clear hb2)
  (try clear hk)
  (try clear hi)
  refine hK.out _ _ ⟨(kQC BK493.out 0).trans rfl, (kQC BK493.out 1).trans rfl, (kQC BK493.out 2).trans rfl, (kQC BK493.out 3).trans rfl, (kQC BK493.out 4).trans rfl, (kQC BK493.out 5).trans rfl, (kQC BK467.out 0).trans rfl, (kQC BK467.out 1).trans rfl, (kQC BK467.out 2).trans rfl, (kQC BK467.out 3).trans rfl, (kQC BK467.out 4).trans rfl, (kQC BK467.out 5).trans rfl⟩ (fun hHeld => ?_)
  clear hK K
  refine tN 48 ?_
  refine tP0k 4 49 (bm 5 31) ?_
  refine done_ (by kernel_rfl) ?_
  have hnb46 := NB493_467.out
  have hnc46 := NB467_493.out
  have hcz47_0 : w45.cell? ⟨gb493, 0, none⟩ = some (.int .i64 t483) := (kQC BK493.out 0).trans rfl
  have hcz47_1 : w45.cell? ⟨gb493, 1, none⟩ = some (.int .i64 t484) := (kQC BK493.out 1).trans rfl
  have hcz47_2 : w45.cell? ⟨gb493, 2, none⟩ = some (.int .i64 t485) := (kQC BK493.out 2).trans rfl
  have hcz47_3 : w45.cell? ⟨gb493, 3, none⟩ = some (.int .i64 t486) := (kQC BK493.out 3).trans rfl
  have hcz47_4 : w45.cell? ⟨gb493, 4, none⟩ = some (.slice Ao26 t487.length co26) := (kQC BK493.out 4).trans rfl
  have hcz47_5 : w45.cell? ⟨gb493, 5, none⟩ = some (.slice Ao27 t490.length co27) := (kQC BK493.out 5).trans rfl
  have hfz47_0 := kQF BK493.out 0
  have hfz47_1 := kQF BK493.out 1
  have hfz47_2 := kQF BK493.out 2
  have hfz47_3 := kQF BK493.out 3
  have hfz47_4 := kQF BK493.out 4
  have hfz47_5 := kQF BK493.out 5
  go_upto_region 14 with (first | ((with_reducible refine gQc (f := 24) rfl ?_); refine goesL_ (some 52) rfl rfl Try.func24 (by kernel_rfl) rfl #[.agg #[.int .i64 t483, .int .i64 t484, .int .i64 t485, .int .i64 t486, .slice Ao26 t487.length co26, .slice Ao27 t490.length co27], .int .i64 1] rfl tL ?_; (with_reducible refine (laws_markNet.calls kj11 t483 t484 t485 t486 (fun k_ => n3 ≤ k_ ∧ k_ < mm_ ∧ k_ < w22.heap.size) (fun k_ => n3 ≤ k_ ∧ mm_ ≤ k_ ∧ k_ < w22.heap.size) _ _ t487 _ _ t490 1 t510 tm1 tm2 w _ tB (by (with_reducible repeat (first | apply Kd.S_alloc | apply Kd.S_drewN | apply Kd.S_drew)); exact Kd.S_below GS4.out GB4.out) (by (with_reducible repeat (first | apply Kd.S_alloc | apply Kd.S_drewN | apply Kd.S_drew)); exact Kd.S_below GS5.out GB4.out) (fun k_ h4_ h5_ => by omega) A39.out).mono ?_); rintro e w48 ⟨rfl, ⟨hs4, hl4⟩, ⟨hs5, hl5⟩, hb, hkp⟩; refine ⟨_, rfl, ?_⟩; have n0_ := Aq.mk (Kd.R_reok (ok := fun k_ => some k_ ≠ (v495 : Value).ownBlock) rfl (Kd.R_kept (by (with_reducible repeat (first | apply Kd.RqA | apply Kd.RqN | apply Kd.RqD)); exact Kd.R_tight rfl HO_6.out) hkp (fun k_ e_ h_ => by have := GH6.out k_ e_.symm; omega)) (fun k_ e_ => HO_6.out.1 k_ e_)); have n1_ := Aq.mk (Kd.R_reok (ok := fun k_ => some k_ ≠ (v480 : Value).ownBlock) rfl (Kd.R_kept (by (with_reducible repeat (first | apply Kd.RqA | apply Kd.RqN | apply Kd.RqD)); exact Kd.R_tight rfl HO_9.out) hkp (fun k_ e_ h_ => by have := GH9.out k_ e_.symm; omega)) (fun k_ e_ => HO_9.out.1 k_ e_)); have n2_ := Aq.mk (Kd.S_mono hs4 (ok' := fun k_ => some k_ ≠ (v480 : Value).ownBlock ∧ some k_ ≠ (v495 : Value).ownBlock ∧ some k_ ≠ ((.slice Ao27 t490.length co27) : Value).ownBlock) (fun k_ h_ => ⟨fun e_ => by have := GH6.out k_ e_.symm; omega, fun e_ => by have := GH9.out k_ e_.symm; omega, fun e_ => by have := (Kd.S_R GS5.out).1 k_ e_.symm; omega⟩)); have n3_ := Aq.mk (Kd.S_mono hs5 (ok' := fun k_ => some k_ ≠ (v480 : Value).ownBlock ∧ some k_ ≠ (v495 : Value).ownBlock ∧ some k_ ≠ ((.slice Ao26 t487.length co26) : Value).ownBlock) (fun k_ h_ => ⟨fun e_ => by have := GH6.out k_ e_.symm; omega, fun e_ => by have := GH9.out k_ e_.symm; omega, fun e_ => by have := (Kd.S_R GS4.out).1 k_ e_.symm; omega⟩)); have n6_ := Aq.mk (blk_kept (tG BK467.out) hkp (fun h_ => by have := GH467.out; omega)); have n7_ := Aq.mk (blk_kept (tG BK493.out) hkp (fun h_ => by have := G493.out; omega)); have n8_ := Aq.mk hb; clear HO_6; clear HO_9; clear HO_494004; clear HO_494005; clear HO505; clear HO508; clear BK467; clear BK493; clear HB; have HO_6 := n0_; have HO_9 := n1_; have HO_494004 := n2_; have HO_494005 := n3_; have BK467 := n6_; have BK493 := n7_; have HB := n8_; clear n0_ n1_ n2_ n3_ n6_ n7_ n8_; clear hs4 hl4 hs5 hl5 hb hkp))
  (try simp only [Act.put, qSa, qSb, qSc])
  go_cut [65] (fun v65 wc => ∃ (kq : Nat) (x65_39 : Bool), v65 = .bool x65_39 ∧ Aq (laws_FnExactEdgesInto.j1 kq a1 t479 t482 t494 x65_39 a0_0 a0_1 a0_2 a0_3 l0_4 l0_5 = some r) ∧ Aq (kq ≤ kj11) ∧ Aq (Kd.R (Kd.int .i64) 2 wc w.heap.size (fun k_ => some k_ ≠ (v495 : Value).ownBlock) v480 t479) ∧ Aq (Kd.R (Kd.int .i64) 2 wc w.heap.size (fun k_ => some k_ ≠ (v480 : Value).ownBlock) v495 t494) ∧ Aq (Kd.S (Kd.slice 2 (Kd.int .i64)) 38 wc w.heap.size (fun k_ => some k_ ≠ (v480 : Value).ownBlock ∧ some k_ ≠ (v495 : Value).ownBlock ∧ some k_ ≠ ((.slice Ao27 t490.length co27) : Value).ownBlock) (.slice Ao26 t487.length co26) tm1) ∧ Aq (Kd.S (Kd.slice 2 (Kd.int .i64)) 38 wc w.heap.size (fun k_ => some k_ ≠ (v480 : Value).ownBlock ∧ some k_ ≠ (v495 : Value).ownBlock ∧ some k_ ≠ ((.slice Ao26 t487.length co26) : Value).ownBlock) (.slice Ao27 t490.length co27) tm2) ∧ Aq (wc.heap[gb467]? = some (.cells #[.int .i64 a0_0, .int .i64 a0_1, .int .i64 a0_2, .int .i64 a0_3, (.slice A0_4 l0_4.length c0_4), (.slice A0_5 l0_5.length c0_5)] 36 (0, 0))) ∧ Aq (wc.heap[gb493]? = some (.cells #[.int .i64 t483, .int .i64 t484, .int .i64 t485, .int .i64 t486, (.slice Ao26 t487.length co26), (.slice Ao27 t490.length co27)] 42 (0, 0))) ∧ Aq (Below w.heap.size w wc))
  case first =>
   have H := HC40.out
   clear HC40
   by_cases c49 : t510 < 0
   ·rw [if_pos c49] at H
    have c49b0 := decide_eq_true c49
    clear c49
    (first | rw [c49b0] | (simp only [i64_w, i32_w]; rw [c49b0]) | skip)
    replace H' := Aq.mk H
    clear H
    go_wp2
    go_meet
    case rel => exact ⟨_, (true), tS, H', ⟨by have := HJ11.out; first | omega | exact Nat.le_refl _⟩, ⟨tR HO_6.out⟩, ⟨tR HO_9.out⟩, ⟨by (with_reducible repeat (first | apply Kd.S_alloc | apply Kd.S_drewN | apply Kd.S_drew)); exact HO_494004.out⟩, ⟨by (with_reducible repeat (first | apply Kd.S_alloc | apply Kd.S_drewN | apply Kd.S_drew)); exact HO_494005.out⟩, ⟨tG BK467.out⟩, ⟨tG BK493.out⟩, ⟨tB⟩⟩
   rw [if_neg c49] at H
   have c49b0 := decide_eq_false c49
   clear c49
   (first | rw [c49b0] | (simp only [i64_w, i32_w]; rw [c49b0]) | skip)
   obtain ⟨t511, A50, H⟩ := qBd H
   by_cases c51 : t511 = true
   ·subst c51
    rw [if_pos rfl] at H
    replace H' := Aq.mk H
    clear H
    obtain ⟨Ao52, co52, eo52⟩ := Kd.R_slice HO_9.out
    subst eo52
    obtain ⟨Ao53, co53, eo53⟩ := Kd.R_slice HO_6.out
    subst eo53
    go_wp2_with (first | (go_at_call 22; (with_reducible refine (laws_eqInt64S.calls kj11 _ _ t494 _ _ t479 true _ ?s1 ?s2 ?s3 ?s4 A50.out).mono ?_); (case s1 => exact tC ((Kd.R_reads' HO_9.out).2.2)); (case s2 => exact (Kd.R_reads' HO_9.out).2.1); (case s3 => exact tC ((Kd.R_reads' HO_6.out).2.2)); (case s4 => exact (Kd.R_reads' HO_6.out).2.1); rintro e w' ⟨rfl, ⟨nd, rfl⟩⟩))
    go_meet
    case rel => exact ⟨_, ((t497 != t482)), tS, H', ⟨by have := HJ11.out; first | omega | exact Nat.le_refl _⟩, ⟨tR HO_6.out⟩, ⟨tR HO_9.out⟩, ⟨by (with_reducible repeat (first | apply Kd.S_alloc | apply Kd.S_drewN | apply Kd.S_drew)); exact HO_494004.out⟩, ⟨by (with_reducible repeat (first | apply Kd.S_alloc | apply Kd.S_drewN | apply Kd.S_drew)); exact HO_494005.out⟩, ⟨tG BK467.out⟩, ⟨tG BK493.out⟩, ⟨tB⟩⟩
   replace c51 := Bool.eq_false_iff.mpr c51
   subst c51
   rw [if_neg (show ¬ (false = true) by decide)] at H
   replace H' := Aq.mk H
   clear H
   obtain ⟨Ao54, co54, eo54⟩ := Kd.R_slice HO_9.out
   subst eo54
   obtain ⟨Ao55, co55, eo55⟩ := Kd.R_slice HO_6.out
   subst eo55
   go_wp2_with (first | (go_at_call 22; (with_reducible refine (laws_eqInt64S.calls kj11 _ _ t494 _ _ t479 false _ ?s1 ?s2 ?s3 ?s4 A50.out).mono ?_); (case s1 => exact tC ((Kd.R_reads' HO_9.out).2.2)); (case s2 => exact (Kd.R_reads' HO_9.out).2.1); (case s3 => exact tC ((Kd.R_reads' HO_6.out).2.2)); (case s4 => exact (Kd.R_reads' HO_6.out).2.1); rintro e w' ⟨rfl, ⟨nd, rfl⟩⟩))
   go_meet
   case rel => exact ⟨_, (true), tS, H', ⟨by have := HJ11.out; first | omega | exact Nat.le_refl _⟩, ⟨tR HO_6.out⟩, ⟨tR HO_9.out⟩, ⟨by (with_reducible repeat (first | apply Kd.S_alloc | apply Kd.S_drewN | apply Kd.S_drew)); exact HO_494004.out⟩, ⟨by (with_reducible repeat (first | apply Kd.S_alloc | apply Kd.S_drewN | apply Kd.S_drew)); exact HO_494005.out⟩, ⟨tG BK467.out⟩, ⟨tG BK493.out⟩, ⟨tB⟩⟩
  clear HC40
  try clear c4
  try clear c4b0
  try clear c30
  try clear c35
  try clear c38
  try clear c49
  try clear c49b0
  try clear c51
  try clear hcz14_0
  try clear hcz14_1
  try clear hcz14_2
  try clear hcz14_3
  try clear hcz14_4
  try clear hcz14_5
  try clear hcz16_0
  try clear hcz16_1
  try clear hcz16_2
  try clear hcz16_3
  try clear hcz16_4
  try clear hcz16_5
  try clear hcz21_0
  try clear hcz21_1
  try clear hcz21_2
  try clear hcz21_3
  try clear hcz21_4
  try clear hcz21_5
  try clear hcz25_0
  try clear hcz25_1
  try clear hcz25_2
  try clear hcz25_3
  try clear hcz25_4
  try clear hcz25_5
  try clear hcz47_0
  try clear hcz47_1
  try clear hcz47_2
  try clear hcz47_3
  try clear hcz47_4
  try clear hcz47_5
  try clear hcz6_0
  try clear hcz6_1
  try clear hcz6_2
  try clear hcz6_3
  try clear hcz6_4
  try clear hcz6_5
  try clear hfz14_0
  try clear hfz14_1
  try clear hfz14_2
  try clear hfz14_3
  try clear hfz14_4
  try clear hfz14_5
  try clear hfz16_0
  try clear hfz16_1
  try clear hfz16_2
  try clear hfz16_3
  try clear hfz16_4
  try clear hfz16_5
  try clear hfz21_0
  try clear hfz21_1
  try clear hfz21_2
  try clear hfz21_3
  try clear hfz21_4
  try clear hfz21_5
  try clear hfz25_0
  try clear hfz25_1
  try clear hfz25_2
  try clear hfz25_3
  try clear hfz25_4
  try clear hfz25_5
  try clear hfz47_0
  try clear hfz47_1
  try clear hfz47_2
  try clear hfz47_3
  try clear hfz47_4
  try clear hfz47_5
  try clear hfz6_0
  try clear hfz6_1
  try clear hfz6_2
  try clear hfz6_3
  try clear hfz6_4
  try clear hfz6_5
  obtain ⟨kq, x65_39, rfl, HA, HJ39, HO_6, HO_9, HO_494004, HO_494005, BK467, BK493, HB⟩ := hcut
  cases kq with
  | zero => exact absurd HA.out (by simp [laws_FnExactEdgesInto.j1])
  | succ kj39 =>
   have H := HA.out
   clear HA
   simp only [laws_FnExactEdgesInto.j1] at H
   by_cases c56 : x65_39 = true
   ·subst c56
    rw [if_pos rfl] at H
    obtain rfl := Option.some.inj H
    go_wp2
    go_ret
    exact ⟨tE, tB⟩
   replace c56 := Bool.eq_false_iff.mpr c56
   subst c56
   rw [if_neg (show ¬ (false = true) by decide)] at H
   obtain ⟨⟨t512, t513⟩, A57, H⟩ := qBd H
   (try dsimp only at H)
   obtain ⟨t514, A58, H⟩ := qBd H
   by_cases c59 : t514 < 0
   ·rw [if_pos c59] at H
    have c59b0 := decide_eq_true c59
    clear c59
    obtain rfl := Option.some.inj H
    obtain ⟨Ao60, co60, eo60⟩ := Kd.R_slice HO_9.out
    subst eo60
    go_wp2_with (first | ((with_reducible refine gQc (f := 25) rfl ?_); refine goesL_ (some 68) rfl rfl Try.func25 (by kernel_rfl) rfl #[.slice Ao60 t494.length co60, .int .i64 1] rfl tL ?_; (with_reducible refine (laws_markInt64S.calls kj39 (fun k_ => some k_ = (.slice Ao60 t494.length co60 : Value).ownBlock) (.slice Ao60 t494.length co60) t494 1 t512 t513 w _ ?s1 ?s2 A57.out).mono ?_); (case s1 => exact tB); (case s2 => exact Kd.R_tight rfl HO_9.out); rintro e w61 ⟨rfl, hy0, hb, hkp⟩; refine ⟨_, rfl, ?_⟩; refine qM7 (Kd.R_mono (ok' := fun k_ => some k_ ≠ (.slice Ao60 t494.length co60 : Value).ownBlock) (Kd.R_keptB (HO_6.out) hkp (fun k_ hk_ hs_ => (hk_) hs_)) (fun k_ hk_ => hk_.1)) (Kd.R_reok rfl hy0 (fun k_ e_ => HO_9.out.1 k_ e_)) (Kd.S_mono (ok' := fun k_ => some k_ ≠ (v480 : Value).ownBlock ∧ some k_ ≠ (.slice Ao60 t494.length co60 : Value).ownBlock ∧ some k_ ≠ (.slice Ao27 t490.length co27 : Value).ownBlock) (Kd.S_keptB (HO_494004.out) hkp (fun k_ hk_ hs_ => (hk_.2.1) hs_)) (fun k_ hk_ => ⟨hk_.1.1, hk_.1.2.1, hk_.1.2.2⟩)) (Kd.S_mono (ok' := fun k_ => some k_ ≠ (v480 : Value).ownBlock ∧ some k_ ≠ (.slice Ao60 t494.length co60 : Value).ownBlock ∧ some k_ ≠ (.slice Ao26 t487.length co26 : Value).ownBlock) (Kd.S_keptB (HO_494005.out) hkp (fun k_ hk_ hs_ => (hk_.2.1) hs_)) (fun k_ hk_ => ⟨hk_.1.1, hk_.1.2.1, hk_.1.2.2⟩)) (blk_kept (tG BK467.out) hkp (fun hs_ => (fun e_ => (Kd.R_ne HO_9.out BK467.out (by decide)) e_) hs_)) (blk_kept (tG BK493.out) hkp (fun hs_ => (fun e_ => (Kd.R_ne HO_9.out BK493.out (by decide)) e_) hs_)) hb ?_; clear HO_6 HO_9 HO_494004 HO_494005 BK467 BK493 HB; intro HO_6 HO_9 HO_494004 HO_494005 BK467 BK493 HB; (try clear hb); (try clear hkp); (try clear hy0)) | ((with_reducible refine gQc (f := 26) rfl ?_); refine goesL_ (some 71) rfl rfl Try.func26 (by kernel_rfl) rfl #[.slice Ao60 t513.length co60, .int .i64 1] rfl (by (try simp only [List.map_toArray, List.map_cons, List.map_nil]); first | done | (rw [show t513.length = t494.length from (Kd.R_reads' HO_9.out).1.symm] <;> rfl) | rfl | (simp only [List.length_drop, List.length_take]; rfl)) ?_; (with_reducible refine (laws_heldInt64S.calls kj39 _ _ t513 1 t514 _ ?s1 ?s2 A58.out).mono ?_); (case s1 => exact tC ((Kd.R_reads' HO_9.out).2.2)); (case s2 => rw [show t513.length = t494.length from (Kd.R_reads' HO_9.out).1.symm]; exact (Kd.R_reads' HO_9.out).2.1); rintro e w' ⟨rfl, ⟨nd, rfl⟩⟩; refine ⟨_, rfl, ?_⟩))
    go_ret
    exact ⟨tE, tB⟩
   rw [if_neg c59] at H
   have c59b0 := decide_eq_false c59
   clear c59
   by_cases c62 : t514 = t512
   rotate_left
   ·rw [if_neg c62] at H
    have c62b0 := beq_eq_false_iff_ne.mpr c62
    have c62b1 := bne_iff_ne.mpr c62
    obtain rfl := Option.some.inj H
    obtain ⟨Ao84, co84, eo84⟩ := Kd.R_slice HO_9.out
    subst eo84
    go_wp2_with (first | ((with_reducible refine gQc (f := 25) rfl ?_); refine goesL_ (some 68) rfl rfl Try.func25 (by kernel_rfl) rfl #[.slice Ao84 t494.length co84, .int .i64 1] rfl tL ?_; (with_reducible refine (laws_markInt64S.calls kj39 (fun k_ => some k_ = (.slice Ao84 t494.length co84 : Value).ownBlock) (.slice Ao84 t494.length co84) t494 1 t512 t513 w _ ?s1 ?s2 A57.out).mono ?_); (case s1 => exact tB); (case s2 => exact Kd.R_tight rfl HO_9.out); rintro e w85 ⟨rfl, hy0, hb, hkp⟩; refine ⟨_, rfl, ?_⟩; refine qM7 (Kd.R_mono (ok' := fun k_ => some k_ ≠ (.slice Ao84 t494.length co84 : Value).ownBlock) (Kd.R_keptB (HO_6.out) hkp (fun k_ hk_ hs_ => (hk_) hs_)) (fun k_ hk_ => hk_.1)) (Kd.R_reok rfl hy0 (fun k_ e_ => HO_9.out.1 k_ e_)) (Kd.S_mono (ok' := fun k_ => some k_ ≠ (v480 : Value).ownBlock ∧ some k_ ≠ (.slice Ao84 t494.length co84 : Value).ownBlock ∧ some k_ ≠ (.slice Ao27 t490.length co27 : Value).ownBlock) (Kd.S_keptB (HO_494004.out) hkp (fun k_ hk_ hs_ => (hk_.2.1) hs_)) (fun k_ hk_ => ⟨hk_.1.1, hk_.1.2.1, hk_.1.2.2⟩)) (Kd.S_mono (ok' := fun k_ => some k_ ≠ (v480 : Value).ownBlock ∧ some k_ ≠ (.slice Ao84 t494.length co84 : Value).ownBlock ∧ some k_ ≠ (.slice Ao26 t487.length co26 : Value).ownBlock) (Kd.S_keptB (HO_494005.out) hkp (fun k_ hk_ hs_ => (hk_.2.1) hs_)) (fun k_ hk_ => ⟨hk_.1.1, hk_.1.2.1, hk_.1.2.2⟩)) (blk_kept (tG BK467.out) hkp (fun hs_ => (fun e_ => (Kd.R_ne HO_9.out BK467.out (by decide)) e_) hs_)) (blk_kept (tG BK493.out) hkp (fun hs_ => (fun e_ => (Kd.R_ne HO_9.out BK493.out (by decide)) e_) hs_)) hb ?_; clear HO_6 HO_9 HO_494004 HO_494005 BK467 BK493 HB; intro HO_6 HO_9 HO_494004 HO_494005 BK467 BK493 HB; (try clear hb); (try clear hkp); (try clear hy0)) | ((with_reducible refine gQc (f := 26) rfl ?_); refine goesL_ (some 71) rfl rfl Try.func26 (by kernel_rfl) rfl #[.slice Ao84 t513.length co84, .int .i64 1] rfl (by (try simp only [List.map_toArray, List.map_cons, List.map_nil]); first | done | (rw [show t513.length = t494.length from (Kd.R_reads' HO_9.out).1.symm] <;> rfl) | rfl | (simp only [List.length_drop, List.length_take]; rfl)) ?_; (with_reducible refine (laws_heldInt64S.calls kj39 _ _ t513 1 t514 _ ?s1 ?s2 A58.out).mono ?_); (case s1 => exact tC ((Kd.R_reads' HO_9.out).2.2)); (case s2 => rw [show t513.length = t494.length from (Kd.R_reads' HO_9.out).1.symm]; exact (Kd.R_reads' HO_9.out).2.1); rintro e w' ⟨rfl, ⟨nd, rfl⟩⟩; refine ⟨_, rfl, ?_⟩))
    go_ret
    exact ⟨tE, tB⟩
   rw [if_pos c62] at H
   have c62b0 := beq_iff_eq.mpr c62
   have c62b1 := bne_eq_false_iff_eq.mpr c62
   clear c62
   obtain ⟨⟨t515, t516, t517, t518, t519, t522⟩, A63, H⟩ := qBd H
   (try dsimp only at H)
   obtain ⟨⟨t525, t528⟩, A64, H⟩ := qBd H
   (try dsimp only at H)
   have HC65 := Aq.mk H
   clear H
   obtain ⟨Ao66, co66, eo66⟩ := Kd.R_slice HO_9.out
   subst eo66
   go_upto_region 25 with (first | ((with_reducible refine gQc (f := 25) rfl ?_); refine goesL_ (some 68) rfl rfl Try.func25 (by kernel_rfl) rfl #[.slice Ao66 t494.length co66, .int .i64 1] rfl tL ?_; (with_reducible refine (laws_markInt64S.calls kj39 (fun k_ => some k_ = (.slice Ao66 t494.length co66 : Value).ownBlock) (.slice Ao66 t494.length co66) t494 1 t512 t513 w _ ?s1 ?s2 A57.out).mono ?_); (case s1 => exact tB); (case s2 => exact Kd.R_tight rfl HO_9.out); rintro e w67 ⟨rfl, hy0, hb, hkp⟩; refine ⟨_, rfl, ?_⟩; refine qM7 (Kd.R_mono (ok' := fun k_ => some k_ ≠ (.slice Ao66 t494.length co66 : Value).ownBlock) (Kd.R_keptB (HO_6.out) hkp (fun k_ hk_ hs_ => (hk_) hs_)) (fun k_ hk_ => hk_.1)) (Kd.R_reok rfl hy0 (fun k_ e_ => HO_9.out.1 k_ e_)) (Kd.S_mono (ok' := fun k_ => some k_ ≠ (v480 : Value).ownBlock ∧ some k_ ≠ (.slice Ao66 t494.length co66 : Value).ownBlock ∧ some k_ ≠ (.slice Ao27 t490.length co27 : Value).ownBlock) (Kd.S_keptB (HO_494004.out) hkp (fun k_ hk_ hs_ => (hk_.2.1) hs_)) (fun k_ hk_ => ⟨hk_.1.1, hk_.1.2.1, hk_.1.2.2⟩)) (Kd.S_mono (ok' := fun k_ => some k_ ≠ (v480 : Value).ownBlock ∧ some k_ ≠ (.slice Ao66 t494.length co66 : Value).ownBlock ∧ some k_ ≠ (.slice Ao26 t487.length co26 : Value).ownBlock) (Kd.S_keptB (HO_494005.out) hkp (fun k_ hk_ hs_ => (hk_.2.1) hs_)) (fun k_ hk_ => ⟨hk_.1.1, hk_.1.2.1, hk_.1.2.2⟩)) (blk_kept (tG BK467.out) hkp (fun hs_ => (fun e_ => (Kd.R_ne HO_9.out BK467.out (by decide)) e_) hs_)) (blk_kept (tG BK493.out) hkp (fun hs_ => (fun e_ => (Kd.R_ne HO_9.out BK493.out (by decide)) e_) hs_)) hb ?_; clear HO_6 HO_9 HO_494004 HO_494005 BK467 BK493 HB; intro HO_6 HO_9 HO_494004 HO_494005 BK467 BK493 HB; (try clear hb); (try clear hkp); (try clear hy0)) | ((with_reducible refine gQc (f := 26) rfl ?_); refine goesL_ (some 71) rfl rfl Try.func26 (by kernel_rfl) rfl #[.slice Ao66 t513.length co66, .int .i64 1] rfl (by (try simp only [List.map_toArray, List.map_cons, List.map_nil]); first | done | (rw [show t513.length = t494.length from (Kd.R_reads' HO_9.out).1.symm] <;> rfl) | rfl | (simp only [List.length_drop, List.length_take]; rfl)) ?_; (with_reducible refine (laws_heldInt64S.calls kj39 _ _ t513 1 t514 _ ?s1 ?s2 A58.out).mono ?_); (case s1 => exact tC ((Kd.R_reads' HO_9.out).2.2)); (case s2 => rw [show t513.length = t494.length from (Kd.R_reads' HO_9.out).1.symm]; exact (Kd.R_reads' HO_9.out).2.1); rintro e w' ⟨rfl, ⟨nd, rfl⟩⟩; refine ⟨_, rfl, ?_⟩; have hnb68 := NB467_493.out; have hnc68 := NB493_467.out; have hcz69_0 : w67.cell? ⟨gb467, 0, none⟩ = some (.int .i64 a0_0) := (kQC BK467.out 0).trans rfl; have hcz69_1 : w67.cell? ⟨gb467, 1, none⟩ = some (.int .i64 a0_1) := (kQC BK467.out 1).trans rfl; have hcz69_2 : w67.cell? ⟨gb467, 2, none⟩ = some (.int .i64 a0_2) := (kQC BK467.out 2).trans rfl; have hcz69_3 : w67.cell? ⟨gb467, 3, none⟩ = some (.int .i64 a0_3) := (kQC BK467.out 3).trans rfl; have hcz69_4 : w67.cell? ⟨gb467, 4, none⟩ = some (.slice A0_4 l0_4.length c0_4) := (kQC BK467.out 4).trans rfl; have hcz69_5 : w67.cell? ⟨gb467, 5, none⟩ = some (.slice A0_5 l0_5.length c0_5) := (kQC BK467.out 5).trans rfl; have hfz69_0 := kQF BK467.out 0; have hfz69_1 := kQF BK467.out 1; have hfz69_2 := kQF BK467.out 2; have hfz69_3 := kQF BK467.out 3; have hfz69_4 := kQF BK467.out 4; have hfz69_5 := kQF BK467.out 5) | ((with_reducible refine gQc (f := 20) rfl ?_); refine goesL_ (some 79) rfl rfl Try.func20 (by kernel_rfl) rfl #[.agg #[.int .i64 a0_0, .int .i64 a0_1, .int .i64 a0_2, .int .i64 a0_3, .slice A0_4 l0_4.length c0_4, .slice A0_5 l0_5.length c0_5]] rfl tL ?_; (with_reducible refine (laws_toNet.calls kj39 a0_0 a0_1 a0_2 a0_3 _ _ l0_4 _ _ l0_5 t515 t516 t517 t518 t519 t522 _ ?s1 ?s2 ?s3 ?s4 A63.out).mono ?_); (case s1 => exact tC ((Kd.C_below HR0_4.out tB))); (case s2 => exact HC0_4.out); (case s3 => exact tC ((Kd.C_below HR0_5.out tB))); (case s4 => exact HC0_5.out); rintro e w70 ⟨v520, v523, rfl, ho0, ho1, hb⟩; refine ⟨_, rfl, ?_⟩; refine qM9 (Kd.R_below (tR HO_6.out) hb) (Kd.R_below (tR HO_9.out) hb) (Kd.S_mono (Kd.S_told (Kd.S_told (Kd.S_old (by (with_reducible repeat (first | apply Kd.S_alloc | apply Kd.S_drewN | apply Kd.S_drew)); exact HO_494004.out) hb) (Kd.S_base ho0)) (Kd.S_base ho1)) (fun _ h_ => h_.1)) (Kd.S_mono (Kd.S_told (Kd.S_told (Kd.S_old (by (with_reducible repeat (first | apply Kd.S_alloc | apply Kd.S_drewN | apply Kd.S_drew)); exact HO_494005.out) hb) (Kd.S_base ho0)) (Kd.S_base ho1)) (fun _ h_ => h_.1)) (Kd.S_lower (Kd.S_new' (Kd.S_new' (Kd.S_new' (Kd.S_new' ho0 (Kd.R_lt (tR HO_6.out))) (Kd.R_lt (tR HO_9.out))) (Kd.S_lt (by (with_reducible repeat (first | apply Kd.S_alloc | apply Kd.S_drewN | apply Kd.S_drew)); exact HO_494004.out))) (Kd.S_lt (by (with_reducible repeat (first | apply Kd.S_alloc | apply Kd.S_drewN | apply Kd.S_drew)); exact HO_494005.out))) (bQZ tB)) (Kd.S_lower (Kd.S_new' (Kd.S_new' (Kd.S_new' (Kd.S_new' ho1 (Kd.R_lt (tR HO_6.out))) (Kd.R_lt (tR HO_9.out))) (Kd.S_lt (by (with_reducible repeat (first | apply Kd.S_alloc | apply Kd.S_drewN | apply Kd.S_drew)); exact HO_494004.out))) (Kd.S_lt (by (with_reducible repeat (first | apply Kd.S_alloc | apply Kd.S_drewN | apply Kd.S_drew)); exact HO_494005.out))) (bQZ tB)) (tQ BK467.out hb) (tQ BK493.out hb) (bQT tB hb) ?_; clear HO_6 HO_9 HO_494004 HO_494005 BK467 BK493 HB; intro HO_6 HO_9 HO_494004 HO_494005 HO521 HO524 BK467 BK493 HB; (try clear hb); (try clear hb2); (try clear hk); (try clear hi); (try clear ho0); (try clear ho1); obtain ⟨Ao71, co71, eo71⟩ := Kd.S_slice HO521.out; subst eo71; obtain ⟨Ao72, co72, eo72⟩ := Kd.S_slice HO524.out; subst eo72) | ((with_reducible refine gQc (f := 21) rfl ?_); refine goesL_ (some 81) rfl rfl Try.func21 (by kernel_rfl) rfl #[.agg #[.int .i64 t515, .int .i64 t516, .int .i64 t517, .int .i64 t518, .slice Ao71 t519.length co71, .slice Ao72 t522.length co72], .int .i64 a1] rfl tL ?_; (with_reducible refine (impl_EdgesInto.calls kj39 t515 t516 t517 t518 _ _ t519 _ _ t522 a1 t525 t528 _ ?s1 ?s2 ?s3 ?s4 A64.out).mono ?_); (case s1 => exact tC ((Kd.S_reads' HO521.out).2.2)); (case s2 => exact (Kd.S_reads' HO521.out).2.1); (case s3 => exact tC ((Kd.S_reads' HO524.out).2.2)); (case s4 => exact (Kd.S_reads' HO524.out).2.1); rintro e w73 ⟨v526, rfl, ho0, hb⟩; refine ⟨_, rfl, ?_⟩; refine qM10 (Kd.R_elder' (tR HO_6.out) (Kd.R_base ho0) hb) (Kd.R_elder' (tR HO_9.out) (Kd.R_base ho0) hb) (Kd.S_elder' (by (with_reducible repeat (first | apply Kd.S_alloc | apply Kd.S_drewN | apply Kd.S_drew)); exact HO_494004.out) (Kd.R_base ho0) hb) (Kd.S_elder' (by (with_reducible repeat (first | apply Kd.S_alloc | apply Kd.S_drewN | apply Kd.S_drew)); exact HO_494005.out) (Kd.R_base ho0) hb) (Kd.S_elder' (by (with_reducible repeat (first | apply Kd.S_alloc | apply Kd.S_drewN | apply Kd.S_drew)); exact HO521.out) (Kd.R_base ho0) hb) (Kd.S_elder' (by (with_reducible repeat (first | apply Kd.S_alloc | apply Kd.S_drewN | apply Kd.S_drew)); exact HO524.out) (Kd.R_base ho0) hb) (Kd.R_lower (Kd.R_new' (Kd.R_new' ho0 (Kd.R_lt (tR HO_6.out))) (Kd.R_lt (tR HO_9.out))) (bQZ tB)) (tQ BK467.out hb) (tQ BK493.out hb) (bQT tB hb) ?_; clear HO_6 HO_9 HO_494004 HO_494005 HO521 HO524 BK467 BK493 HB; intro HO_6 HO_9 HO_494004 HO_494005 HO521 HO524 HO527 BK467 BK493 HB; (try clear hb); (try clear hb2); (try clear hk); (try clear hi); (try clear ho0)))
   (try simp only [Act.put, qSa, qSb, qSc])
   go_cut [92] (fun v92 wc => ∃ (kq : Nat) (x92_64 : Bool), v92 = .bool x92_64 ∧ Aq (laws_FnExactEdgesInto.j2 kq t513 t512 x92_64 = some r) ∧ Aq (kq ≤ kj39) ∧ Aq (Kd.R (Kd.int .i64) 2 wc w.heap.size (fun _ => True) (.slice Ao66 t494.length co66) t513) ∧ Aq (Kd.S (Kd.slice 2 (Kd.int .i64)) 38 wc w.heap.size (fun k_ => some k_ ≠ ((.slice Ao66 t494.length co66) : Value).ownBlock ∧ some k_ ≠ ((.slice Ao27 t490.length co27) : Value).ownBlock) (.slice Ao26 t487.length co26) tm1) ∧ Aq (Kd.S (Kd.slice 2 (Kd.int .i64)) 38 wc w.heap.size (fun k_ => some k_ ≠ ((.slice Ao66 t494.length co66) : Value).ownBlock ∧ some k_ ≠ ((.slice Ao26 t487.length co26) : Value).ownBlock) (.slice Ao27 t490.length co27) tm2) ∧ Aq (wc.heap[gb467]? = some (.cells #[.int .i64 a0_0, .int .i64 a0_1, .int .i64 a0_2, .int .i64 a0_3, (.slice A0_4 l0_4.length c0_4), (.slice A0_5 l0_5.length c0_5)] 36 (0, 0))) ∧ Aq (wc.heap[gb493]? = some (.cells #[.int .i64 t483, .int .i64 t484, .int .i64 t485, .int .i64 t486, (.slice Ao26 t487.length co26), (.slice Ao27 t490.length co27)] 42 (0, 0))) ∧ Aq (Below w.heap.size w wc))
   case first =>
    have H := HC65.out
    clear HC65
    obtain ⟨t529, A74, H⟩ := qBd H
    by_cases c75 : t529 = true
    ·subst c75
     rw [if_pos rfl] at H
     replace H' := Aq.mk H
     clear H
     obtain ⟨Ao76, co76, eo76⟩ := Kd.R_slice HO527.out
     subst eo76
     obtain ⟨Ao77, co77, eo77⟩ := Kd.R_slice HO_6.out
     subst eo77
     go_wp2_with (first | ((with_reducible refine gQc (f := 22) rfl ?_); refine goesL_ (some 86) rfl rfl Try.func22 (by kernel_rfl) rfl #[.slice Ao76 t525.length co76, .slice Ao77 t479.length co77] rfl tL ?_; (with_reducible refine (laws_eqInt64S.calls kj39 _ _ t525 _ _ t479 true _ ?s1 ?s2 ?s3 ?s4 A74.out).mono ?_); (case s1 => exact tC ((Kd.R_reads' HO527.out).2.2)); (case s2 => exact (Kd.R_reads' HO527.out).2.1); (case s3 => exact tC ((Kd.R_reads' HO_6.out).2.2)); (case s4 => exact (Kd.R_reads' HO_6.out).2.1); rintro e w' ⟨rfl, ⟨nd, rfl⟩⟩; refine ⟨_, rfl, ?_⟩))
     go_meet
     case rel => exact ⟨_, ((t528 != t482)), tS, H', ⟨by have := HJ11.out; have := HJ39.out; first | omega | exact Nat.le_refl _⟩, ⟨by (with_reducible repeat (first | apply Kd.RqA | apply Kd.RqN | apply Kd.RqD)); exact Kd.R_mono HO_9.out (fun _ hk => trivial)⟩, ⟨by (with_reducible repeat (first | apply Kd.S_alloc | apply Kd.S_drewN | apply Kd.S_drew)); exact Kd.S_mono HO_494004.out (fun _ hk => ⟨hk.1.1.1.2.1, hk.1.1.1.2.2⟩)⟩, ⟨by (with_reducible repeat (first | apply Kd.S_alloc | apply Kd.S_drewN | apply Kd.S_drew)); exact Kd.S_mono HO_494005.out (fun _ hk => ⟨hk.1.1.1.2.1, hk.1.1.1.2.2⟩)⟩, ⟨tG BK467.out⟩, ⟨tG BK493.out⟩, ⟨tB⟩⟩
    replace c75 := Bool.eq_false_iff.mpr c75
    subst c75
    rw [if_neg (show ¬ (false = true) by decide)] at H
    replace H' := Aq.mk H
    clear H
    obtain ⟨Ao78, co78, eo78⟩ := Kd.R_slice HO527.out
    subst eo78
    obtain ⟨Ao79, co79, eo79⟩ := Kd.R_slice HO_6.out
    subst eo79
    go_wp2_with (first | ((with_reducible refine gQc (f := 22) rfl ?_); refine goesL_ (some 86) rfl rfl Try.func22 (by kernel_rfl) rfl #[.slice Ao78 t525.length co78, .slice Ao79 t479.length co79] rfl tL ?_; (with_reducible refine (laws_eqInt64S.calls kj39 _ _ t525 _ _ t479 false _ ?s1 ?s2 ?s3 ?s4 A74.out).mono ?_); (case s1 => exact tC ((Kd.R_reads' HO527.out).2.2)); (case s2 => exact (Kd.R_reads' HO527.out).2.1); (case s3 => exact tC ((Kd.R_reads' HO_6.out).2.2)); (case s4 => exact (Kd.R_reads' HO_6.out).2.1); rintro e w' ⟨rfl, ⟨nd, rfl⟩⟩; refine ⟨_, rfl, ?_⟩))
    go_meet
    case rel => exact ⟨_, (true), tS, H', ⟨by have := HJ11.out; have := HJ39.out; first | omega | exact Nat.le_refl _⟩, ⟨by (with_reducible repeat (first | apply Kd.RqA | apply Kd.RqN | apply Kd.RqD)); exact Kd.R_mono HO_9.out (fun _ hk => trivial)⟩, ⟨by (with_reducible repeat (first | apply Kd.S_alloc | apply Kd.S_drewN | apply Kd.S_drew)); exact Kd.S_mono HO_494004.out (fun _ hk => ⟨hk.1.1.1.2.1, hk.1.1.1.2.2⟩)⟩, ⟨by (with_reducible repeat (first | apply Kd.S_alloc | apply Kd.S_drewN | apply Kd.S_drew)); exact Kd.S_mono HO_494005.out (fun _ hk => ⟨hk.1.1.1.2.1, hk.1.1.1.2.2⟩)⟩, ⟨tG BK467.out⟩, ⟨tG BK493.out⟩, ⟨tB⟩⟩
   clear HC65
   try clear c4
   try clear c4b0
   try clear c30
   try clear c35
   try clear c38
   try clear c49
   try clear c49b0
   try clear c51
   try clear c56
   try clear c59
   try clear c59b0
   try clear c62
   try clear c62b0
   try clear c62b1
   try clear c75
   try clear hcz14_0
   try clear hcz14_1
   try clear hcz14_2
   try clear hcz14_3
   try clear hcz14_4
   try clear hcz14_5
   try clear hcz16_0
   try clear hcz16_1
   try clear hcz16_2
   try clear hcz16_3
   try clear hcz16_4
   try clear hcz16_5
   try clear hcz21_0
   try clear hcz21_1
   try clear hcz21_2
   try clear hcz21_3
   try clear hcz21_4
   try clear hcz21_5
   try clear hcz25_0
   try clear hcz25_1
   try clear hcz25_2
   try clear hcz25_3
   try clear hcz25_4
   try clear hcz25_5
   try clear hcz47_0
   try clear hcz47_1
   try clear hcz47_2
   try clear hcz47_3
   try clear hcz47_4
   try clear hcz47_5
   try clear hcz69_0
   try clear hcz69_1
   try clear hcz69_2
   try clear hcz69_3
   try clear hcz69_4
   try clear hcz69_5
   try clear hcz6_0
   try clear hcz6_1
   try clear hcz6_2
   try clear hcz6_3
   try clear hcz6_4
   try clear hcz6_5
   try clear hfz14_0
   try clear hfz14_1
   try clear hfz14_2
   try clear hfz14_3
   try clear hfz14_4
   try clear hfz14_5
   try clear hfz16_0
   try clear hfz16_1
   try clear hfz16_2
   try clear hfz16_3
   try clear hfz16_4
   try clear hfz16_5
   try clear hfz21_0
   try clear hfz21_1
   try clear hfz21_2
   try clear hfz21_3
   try clear hfz21_4
   try clear hfz21_5
   try clear hfz25_0
   try clear hfz25_1
   try clear hfz25_2
   try clear hfz25_3
   try clear hfz25_4
   try clear hfz25_5
   try clear hfz47_0
   try clear hfz47_1
   try clear hfz47_2
   try clear hfz47_3
   try clear hfz47_4
   try clear hfz47_5
   try clear hfz69_0
   try clear hfz69_1
   try clear hfz69_2
   try clear hfz69_3
   try clear hfz69_4
   try clear hfz69_5
   try clear hfz6_0
   try clear hfz6_1
   try clear hfz6_2
   try clear hfz6_3
   try clear hfz6_4
   try clear hfz6_5
   obtain ⟨kq, x92_64, rfl, HA, HJ64, HO_9, HO_494004, HO_494005, BK467, BK493, HB⟩ := hcut
   have hl9_64 := (Kd.R_reads' HO_9.out).1
   rw [hl9_64] at HO_9
   (try simp only [hl9_64])
   (try simp only [hl9_64] at BK467)
   (try simp only [hl9_64] at BK493)
   (try simp only [hl9_64] at HO_494004)
   (try simp only [hl9_64] at HO_494005)
   cases kq with
   | zero => exact absurd HA.out (by simp [laws_FnExactEdgesInto.j2])
   | succ kj64 =>
    have H := HA.out
    clear HA
    simp only [laws_FnExactEdgesInto.j2] at H
    by_cases c80 : x92_64 = true
    ·subst c80
     rw [if_pos rfl] at H
     obtain rfl := Option.some.inj H
     go_wp2
     go_ret
     exact ⟨tE, tB⟩
    replace c80 := Bool.eq_false_iff.mpr c80
    subst c80
    rw [if_neg (show ¬ (false = true) by decide)] at H
    obtain ⟨t530, A81, H⟩ := qBd H
    by_cases c82 : t530 < 0
    ·rw [if_pos c82] at H
     have c82b0 := decide_eq_true c82
     clear c82
     (try (have c82b0z := c82b0; simp only [hl9_64] at c82b0z))
     obtain rfl := Option.some.inj H
     go_wp2_with (first | ((with_reducible refine gQc (f := 26) rfl ?_); refine goesL_ (some 95) rfl rfl Try.func26 (by kernel_rfl) rfl #[.slice Ao66 t513.length co66, .int .i64 1] rfl tL ?_; (with_reducible refine (laws_heldInt64S.calls kj64 _ _ t513 1 t530 _ ?s1 ?s2 A81.out).mono ?_); (case s1 => exact tC ((Kd.R_reads' HO_9.out).2.2)); (case s2 => exact (Kd.R_reads' HO_9.out).2.1); rintro e w' ⟨rfl, ⟨nd, rfl⟩⟩; refine ⟨_, rfl, ?_⟩))
     go_ret
     exact ⟨tE, tB⟩
    rw [if_neg c82] at H
    have c82b0 := decide_eq_false c82
    clear c82
    (try (have c82b0z := c82b0; simp only [hl9_64] at c82b0z))
    by_cases c83 : t530 = t512
    ·rw [if_pos c83] at H
     have c83b0 := beq_iff_eq.mpr c83
     have c83b1 := bne_eq_false_iff_eq.mpr c83
     clear c83
     (try (have c83b0z := c83b0; simp only [hl9_64] at c83b0z))
     (try (have c83b1z := c83b1; simp only [hl9_64] at c83b1z))
     obtain rfl := Option.some.inj H
     go_wp2_with (first | ((with_reducible refine gQc (f := 26) rfl ?_); refine goesL_ (some 95) rfl rfl Try.func26 (by kernel_rfl) rfl #[.slice Ao66 t513.length co66, .int .i64 1] rfl tL ?_; (with_reducible refine (laws_heldInt64S.calls kj64 _ _ t513 1 t530 _ ?s1 ?s2 A81.out).mono ?_); (case s1 => exact tC ((Kd.R_reads' HO_9.out).2.2)); (case s2 => exact (Kd.R_reads' HO_9.out).2.1); rintro e w' ⟨rfl, ⟨nd, rfl⟩⟩; refine ⟨_, rfl, ?_⟩))
     go_ret
     exact ⟨tE, tB⟩
    rw [if_neg c83] at H
    have c83b0 := beq_eq_false_iff_ne.mpr c83
    have c83b1 := bne_iff_ne.mpr c83
    (try (have c83b0z := c83b0; simp only [hl9_64] at c83b0z))
    (try (have c83b1z := c83b1; simp only [hl9_64] at c83b1z))
    obtain rfl := Option.some.inj H
    go_wp2_with (first | ((with_reducible refine gQc (f := 26) rfl ?_); refine goesL_ (some 95) rfl rfl Try.func26 (by kernel_rfl) rfl #[.slice Ao66 t513.length co66, .int .i64 1] rfl tL ?_; (with_reducible refine (laws_heldInt64S.calls kj64 _ _ t513 1 t530 _ ?s1 ?s2 A81.out).mono ?_); (case s1 => exact tC ((Kd.R_reads' HO_9.out).2.2)); (case s2 => exact (Kd.R_reads' HO_9.out).2.1); rintro e w' ⟨rfl, ⟨nd, rfl⟩⟩; refine ⟨_, rfl, ?_⟩))
    go_ret
    exact ⟨tE, tB⟩
end Go.Proofs.Ytbalkaphibnpcaa.P
