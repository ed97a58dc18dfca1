/- Functions of the program and what they tell, as the printing program wrote it. -/
import Derived.Test.YtbgbblgdbcjibaaPx0
import Derived.Test.YtbgbblgdbcjibaaPx2
namespace Go.Proofs.Ytbgbblgdbcjibaa.P
open Go.Shelf Go.RowKit Go.Proofs.YtbgbblgdbcjibaaW.PrintWords Go.Proofs.YtbgbblgdbcjibaaW.PrintLast Go.Proofs.YtbgbblgdbcjibaaW.PrintMore
attribute [local go_sem] max2_int min2_int max_two min_two max_three min_three max_four min_four
set_option linter.unusedVariables false
set_option linter.unusedSimpArgs false
set_option maxHeartbeats 8000000
set_option maxRecDepth 100000
def impl_Field_all.l0 : Nat → List Int → Int → Int → Option (List Int)
  | 0, _, _, _ => none
  | k + 1, x3, x7, x8 => if x8 < x7 then (if x3.length < 17592186044416 then (impl_Field_all.l0 k (x3 ++ [x8]) x7 (wrap64 (x8 + 1))) else (none)) else (some x3)
def impl_Field_all.f (k : Nat) (a0_0 : Int) (a0_1 : Int) : Option (List Int) := (impl_Field_count.f a0_0 a0_1).bind fun t211 => (impl_Field_all.l0 k (([] : List Int)) t211 0)
theorem impl_Field_all.mono_l : ∀ k, (∀ y0 y1 y2, LeO (impl_Field_all.l0 k y0 y1 y2) (impl_Field_all.l0 (k + 1) y0 y1 y2))
 | 0 => fun _ _ _ r h => by simp [impl_Field_all.l0] at h
 | k + 1 => by
  have ih0 := impl_Field_all.mono_l k
  ·intro y0 y1 y2
   unfold impl_Field_all.l0
   repeat' first
   | (with_reducible first | apply ih0 | exact LeO.refl _ | exact LeO.none _ | refine LeO.ite ?_ ?_ | refine LeO.bind ?_ (fun _ => ?_))
   | exact LeO.none _
   | refine LeO.ite ?_ ?_
   | refine LeO.bind ?_ (fun _ => ?_)
theorem impl_Field_all.mono : ∀ a0 a1 k, LeO (impl_Field_all.f k a0 a1) (impl_Field_all.f (k + 1) a0 a1) := by
 intro a0 a1 k
 have ih0 := impl_Field_all.mono_l k
 unfold impl_Field_all.f
 repeat' first
  | (with_reducible first | apply ih0 | exact LeO.refl _ | exact LeO.none _ | refine LeO.ite ?_ ?_ | refine LeO.bind ?_ (fun _ => ?_))
  | exact LeO.none _
  | refine LeO.ite ?_ ?_
  | refine LeO.bind ?_ (fun _ => ?_)
theorem impl_Field_all.calls (k : Nat) (a0_0 : Int) (a0_1 : Int) (r : List Int) (w : World) (h : impl_Field_all.f k a0_0 a0_1 = some r) :
 Calls Try.prog 40 #[.agg #[.int .i64 a0_0, .int .i64 a0_1]] w fun e w' => ∃ v0_ : Value, e = .returned (v0_) ∧ Kd.R (Kd.int .i64) 2 w' w.heap.size (fun _ => True) v0_ r ∧ Below w.heap.size w w' := by
 have hu26 := Try.underlying26
 have HB := Aq.mk (Below.refl w.heap.size w)
 have H : ((impl_Field_count.f a0_0 a0_1).bind fun t211 => (impl_Field_all.l0 k (([] : List Int)) t211 0)) = some r := h
 clear h
 obtain ⟨y208, hy208⟩ : ∃ y_ : List Int, y_ = (([] : List Int)) := ⟨_, rfl⟩
 replace H : ((impl_Field_count.f a0_0 a0_1).bind fun t211 => (impl_Field_all.l0 k y208 t211 0)) = some r := by first | (rw [hy208]; with_reducible exact H) | (have H2_ := (Option.bind_some _ _).symm.trans H; rw [hy208]; with_reducible exact H2_) | (have H2_ := (Option.bind_some _ _).symm.trans H; with_reducible exact H2_) | with_reducible exact H | (rw [hy208]; exact H) | exact H
 have Ny208 := Aq.mk hy208
 clear hy208
 obtain ⟨t211, A2, H⟩ := qBd H
 replace H' := Aq.mk H
 clear H
 go_enter Try.func40, Try.ntmps40
 go_wp2_with (first | ((with_reducible refine gQd (N := 1) rfl ?_); refine xQe ?hg (N := 1) ?hd (cs := #[.int .i64 a0_0, .int .i64 a0_1]) (t := 26) ?hr ?_; (case hd => rfl); (case hg => rfl); (case hr => exact tH); intro gb207 hg w3 hbox hb; refine qM4 (bQT tB hb) hbox (tZ w hg) (tZ w hg) ?_; clear HB; intro HB BK207 GW207 GE207; clear hb hbox hg) | ((with_reducible refine gQd (N := 5) rfl ?_); refine Kd.R_lit (Kd.int .i64) _ 2 ?hg (N := 5) ?hd (xs := ([] : List Int)) (inner := []) (ok := fun _ => True) (okp := fun _ => True) ?hr ?hp (fun _ hk => hk) trivial (Below.refl _ _) (Nat.le_refl _) (by simp) ?_; (case hd => rfl); (case hg => rfl); (case hr => exact tH); (case hp => exact (Reps.none _ _)); intro v209 w4 ho5 hb hg_ hnew_; clear hg_ hnew_; (first | rw [← Ny208.out] at ho5 | (simp only [Int.reduceToNat] at ho5; rw [← Ny208.out] at ho5)); refine qM3 (Kd.R_lower ho5 (bQZ tB)) (tQ BK207.out hb) (bQT tB hb) ?_; clear BK207 HB; intro HO210 BK207 HB; clear hb ho5; have hcz6_0 : w4.cell? ⟨gb207, 0, none⟩ = some (.int .i64 a0_0) := (kQC BK207.out 0).trans rfl; have hcz6_1 : w4.cell? ⟨gb207, 1, none⟩ = some (.int .i64 a0_1) := (kQC BK207.out 1).trans rfl; have hfz6_0 := kQF BK207.out 0; have hfz6_1 := kQF BK207.out 1) | ((with_reducible refine gQc (f := 66) rfl ?_); refine goesL_ (some 7) rfl rfl Try.func66 (by kernel_rfl) rfl #[.agg #[.int .i64 a0_0, .int .i64 a0_1]] rfl tL ?_; (with_reducible refine (impl_Field_count.calls a0_0 a0_1 t211 _ A2.out).mono ?_); rintro e w7 ⟨rfl, hb⟩; refine ⟨_, rfl, ?_⟩; refine qM3 (Kd.R_below (tR HO210.out) hb) (tQ BK207.out hb) (bQT tB hb) ?_; clear HO210 BK207 HB; intro HO210 BK207 HB; (try clear hb); (try clear hb2); (try clear hk); (try clear hi)))
 go_loopg [3, 8] k (fun kq v3 v8 w' => ∃ (x3_1 : List Int) (x8_1 : Int), v8 = .int .i64 x8_1 ∧ Aq (impl_Field_all.l0 kq x3_1 t211 x8_1 = some r) ∧ Aq (kq ≤ k) ∧ Aq (Kd.R (Kd.int .i64) 2 w' w.heap.size (fun _ => True) v3 x3_1) ∧ Aq (w'.heap[gb207]? = some (.cells #[.int .i64 a0_0, .int .i64 a0_1] 26 (0, 0))) ∧ Aq (Below w.heap.size w w'))
 case atStart => exact ⟨(y208), (0), tS, H', ⟨Nat.le_refl _⟩, ⟨tR HO210.out⟩, ⟨tG BK207.out⟩, ⟨tB⟩⟩
 clear H'
 try clear hcz6_0
 try clear hcz6_1
 try clear hfz6_0
 try clear hfz6_1
 obtain ⟨x3_1, x8_1, rfl, HA, HK1, HO_3, BK207, HB⟩ := hrel
 cases gk with
 | zero => exact absurd HA.out (by simp [impl_Field_all.l0])
 | succ k1 =>
  have H := HA.out
  clear HA
  simp only [impl_Field_all.l0] at H
  by_cases c8 : x8_1 < t211
  rotate_left
  ·rw [if_neg c8] at H
   have c8b0 := decide_eq_false c8
   clear c8
   obtain rfl := Option.some.inj H
   go_wp2
   go_ret
   exact ⟨_, tE, tR HO_3.out, tB⟩
  rw [if_pos c8] at H
  have c8b0 := decide_eq_true c8
  clear c8
  by_cases c9 : x3_1.length < 17592186044416
  rotate_left
  ·rw [if_neg c9] at H
   exact absurd H (by simp)
  rw [if_pos c9] at H
  have LMc9 := Aq.mk c9
  clear c9
  obtain ⟨y212, hy212⟩ : ∃ y_ : List Int, y_ = (x3_1 ++ [x8_1]) := ⟨_, rfl⟩
  replace H : (impl_Field_all.l0 k1 y212 t211 (wrap64 (x8_1 + 1))) = some r := by first | (rw [hy212]; with_reducible exact H) | (have H2_ := (Option.bind_some _ _).symm.trans H; rw [hy212]; with_reducible exact H2_) | (have H2_ := (Option.bind_some _ _).symm.trans H; with_reducible exact H2_) | with_reducible exact H | (rw [hy212]; exact H) | exact H
  have Ny212 := Aq.mk hy212
  clear hy212
  replace H' := Aq.mk H
  clear H
  go_wp2_with (first | ((with_reducible refine gate_builtin (b := .append) (xs := #[.tmp 11, .tmp 13]) rfl ?_); at_builtin; refine Kd.R_append (Kd.int .i64) (w0 := w) w.heap.size rfl (.tmp 11) (.tmp 13) 29 2 (.int .i64 0) 8 rfl Try.underlying29 info2 rfl (by decide) (by omega) u3 x3_1 x8_1 [.int .i64 x8_1] (fun _ => True) (fun _ => False) rfl rfl ?aP (fun _ hk => hk.elim) ?aF ?aO ?aB ?aS ?aL ?_; (case aP => exact rfl); (case aB => exact tB); (case aF => exact (fun _ _ => trivial)); (case aO => exact (tR HO_3.out)); (case aS => exact (bQZ tB)); (case aL => have := LMc9.out; omega); intro v213 w10 ho hb hg hat; rw [← Ny212.out] at ho; refine qM3 (blk_grown (g := gb207) (o := .cells #[.int .i64 a0_0, .int .i64 a0_1] 26 (0, 0)) (tG BK207.out) hg (Kd.R_ne HO_3.out BK207.out (by decide))) hb ho ?_; clear BK207 HB HO_3; intro BK207 HB HO214; clear ho hb hg hat))
  go_roundg k1
  case measure => have := HK1.out; omega
  case rel => exact ⟨(y212), (wrap64 (x8_1 + 1)), tS, H', ⟨by have := HK1.out; omega⟩, ⟨tR HO214.out⟩, ⟨tG BK207.out⟩, ⟨tB⟩⟩
end Go.Proofs.Ytbgbblgdbcjibaa.P
