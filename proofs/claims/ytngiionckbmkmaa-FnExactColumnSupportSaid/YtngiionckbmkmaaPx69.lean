-- written by a program of this seat's prover (wip/myprint.py) over the kit's print
import Derived.Test.YtngiionckbmkmaaPx0
import Derived.Test.YtngiionckbmkmaaPx1
import Derived.Test.YtngiionckbmkmaaPx2
import Derived.Test.YtngiionckbmkmaaPx6
import Derived.Test.YtngiionckbmkmaaPx14
import Derived.Test.YtngiionckbmkmaaPx16
import Derived.Test.YtngiionckbmkmaaPx47
import Derived.Test.YtngiionckbmkmaaPx48
namespace Go.Proofs.Ytngiionckbmkmaa.P
open Go.Shelf Go.RowKit Go.Proofs.YtngiionckbmkmaaW.PrintWords Go.Proofs.YtngiionckbmkmaaW.PrintLast Go.Proofs.YtngiionckbmkmaaW.PrintMore
attribute [local go_sem] max2_int min2_int max_two min_two max_three min_three max_four min_four   -- for this text's walks alone
set_option linter.unusedVariables false
set_option linter.unusedSimpArgs false

/-! ### laws_FnExactColumnSupport: function 11 -/
mutual
def laws_FnExactColumnSupport.j0 : Nat → List Int → Int → List Int → Int → Bool → Int → Int → Int → List Int → Int → List Int → Option (Bool)
  | 0, _, _, _, _, _, _, _, _, _, _, _ => none
  | k + 1, x1, x6, x7, x9, x43, x773000, x773001, x784000, x784001, x795000, x795001 => if x43 = true then (some false) else ((laws_toInt64S.f k x1).bind fun t796 => ((laws_eqInt64S.f k x7 t796).bind fun t799 => (if t799 = true then ((laws_markInt64S.f k x7 1).bind fun bt800 => (if bt800.1 < 0 then (laws_FnExactColumnSupport.j1 k x1 x6 true x773000 x773001 x784000 x784001 x795000 x795001) else ((laws_eqMatrix.f k x795000 x795001 x784000 x784001).bind fun t802 => (if t802 = true then (laws_FnExactColumnSupport.j1 k x1 x6 (x9 != x6) x773000 x773001 x784000 x784001 x795000 x795001) else (laws_FnExactColumnSupport.j1 k x1 x6 true x773000 x773001 x784000 x784001 x795000 x795001))))) else (some false))))
def laws_FnExactColumnSupport.j1 : Nat → List Int → Int → Bool → Int → Int → Int → List Int → Int → List Int → Option (Bool)
  | 0, _, _, _, _, _, _, _, _, _ => none
  | k + 1, x1, x6, x64, x773000, x773001, x784000, x784001, x795000, x795001 => if x64 = true then (some false) else ((laws_markMatrix.f k x795000 x795001 1).bind fun bt803 => ((laws_heldMatrix.f k x795000 bt803.2 1).bind fun t805 => (if t805 < 0 then (some false) else (if t805 = bt803.1 then ((laws_toField.f x773000 x773001).bind fun bt806 => ((laws_toInt64S.f k x1).bind fun t808 => ((impl_ColumnSupport.f k bt806.1 bt806.2 t808).bind fun bt811 => ((laws_eqMatrix.f k bt811.1 bt811.2.1 x784000 x784001).bind fun t817 => (if t817 = true then (laws_FnExactColumnSupport.j2 k bt803.1 (bt811.2.2 != x6) x795000 bt803.2) else (laws_FnExactColumnSupport.j2 k bt803.1 true x795000 bt803.2)))))) else (some false)))))
def laws_FnExactColumnSupport.j2 : Nat → Int → Bool → Int → List Int → Option (Bool)
  | 0, _, _, _, _ => none
  | k + 1, x11, x92, x795000, x795001 => if x92 = true then (some false) else ((laws_heldMatrix.f k x795000 x795001 1).bind fun t818 => (if t818 < 0 then (some false) else (if t818 = x11 then (some true) else (some false))))
end
def laws_FnExactColumnSupport.f (k : Nat) (a0_0 : Int) (a0_1 : Int) (l1 : List Int) : Option (Bool) := if (l1.length : Int) > 1048576 then (some true) else ((laws_toField.f a0_0 a0_1).bind fun bt773 => ((laws_toInt64S.f k l1).bind fun t775 => ((spec_ColumnSupport.f k bt773.1 bt773.2 t775).bind fun bt778 => ((laws_toInt64S.f k l1).bind fun t784 => ((laws_toField.f a0_0 a0_1).bind fun bt787 => ((impl_ColumnSupport.f k bt787.1 bt787.2 t784).bind fun bt789 => ((laws_eqMatrix.f k bt789.1 bt789.2.1 bt778.1 bt778.2.1).bind fun t795 => (if t795 = true then (laws_FnExactColumnSupport.j0 k l1 bt778.2.2 t784 bt789.2.2 (bt789.2.2 != bt778.2.2) a0_0 a0_1 bt778.1 bt778.2.1 bt789.1 bt789.2.1) else (laws_FnExactColumnSupport.j0 k l1 bt778.2.2 t784 bt789.2.2 true a0_0 a0_1 bt778.1 bt778.2.1 bt789.1 bt789.2.1)))))))))
theorem laws_FnExactColumnSupport.mono_l : ∀ k, (∀ y0 y1 y2 y3 y4 y5 y6 y7 y8 y9 y10, LeO (laws_FnExactColumnSupport.j0 k y0 y1 y2 y3 y4 y5 y6 y7 y8 y9 y10) (laws_FnExactColumnSupport.j0 (k + 1) y0 y1 y2 y3 y4 y5 y6 y7 y8 y9 y10)) ∧ (∀ y0 y1 y2 y3 y4 y5 y6 y7 y8, LeO (laws_FnExactColumnSupport.j1 k y0 y1 y2 y3 y4 y5 y6 y7 y8) (laws_FnExactColumnSupport.j1 (k + 1) y0 y1 y2 y3 y4 y5 y6 y7 y8)) ∧ (∀ y0 y1 y2 y3, LeO (laws_FnExactColumnSupport.j2 k y0 y1 y2 y3) (laws_FnExactColumnSupport.j2 (k + 1) y0 y1 y2 y3))
  | 0 => ⟨fun _ _ _ _ _ _ _ _ _ _ _ r h => by simp [laws_FnExactColumnSupport.j0] at h, fun _ _ _ _ _ _ _ _ _ r h => by simp [laws_FnExactColumnSupport.j1] at h, fun _ _ _ _ r h => by simp [laws_FnExactColumnSupport.j2] at h⟩
  | k + 1 => by
    obtain ⟨ih0, ih1, ih2⟩ := laws_FnExactColumnSupport.mono_l k
    refine ⟨?_, ?_, ?_⟩
    · intro y0 y1 y2 y3 y4 y5 y6 y7 y8 y9 y10
      unfold laws_FnExactColumnSupport.j0
      repeat' first
      | (with_reducible exact ih0 _ _ _ _ _ _ _ _ _ _ _)
      | (with_reducible exact ih1 _ _ _ _ _ _ _ _ _)
      | (with_reducible exact ih2 _ _ _ _)
      | (with_reducible exact impl_ColumnSupport.mono _ _ _ _)
      | (with_reducible exact laws_eqInt64S.mono _ _ _)
      | (with_reducible exact laws_eqMatrix.mono _ _ _ _ _)
      | (with_reducible exact laws_heldMatrix.mono _ _ _ _)
      | (with_reducible exact laws_markInt64S.mono _ _ _)
      | (with_reducible exact laws_markMatrix.mono _ _ _ _)
      | (with_reducible exact laws_toInt64S.mono _ _)
      | (with_reducible exact spec_ColumnSupport.mono _ _ _ _)
      | (with_reducible exact LeO.refl _)
      | (with_reducible exact LeO.none _)
      | (with_reducible refine LeO.ite ?_ ?_)
      | (with_reducible refine LeO.bind ?_ (fun _ => ?_))
      | exact ih0 _ _ _ _ _ _ _ _ _ _ _
      | exact ih1 _ _ _ _ _ _ _ _ _
      | exact ih2 _ _ _ _
      | exact impl_ColumnSupport.mono _ _ _ _
      | exact laws_eqInt64S.mono _ _ _
      | exact laws_eqMatrix.mono _ _ _ _ _
      | exact laws_heldMatrix.mono _ _ _ _
      | exact laws_markInt64S.mono _ _ _
      | exact laws_markMatrix.mono _ _ _ _
      | exact laws_toInt64S.mono _ _
      | exact spec_ColumnSupport.mono _ _ _ _
      | exact LeO.none _
      | refine LeO.ite ?_ ?_
      | refine LeO.bind ?_ (fun _ => ?_)
    · intro y0 y1 y2 y3 y4 y5 y6 y7 y8
      unfold laws_FnExactColumnSupport.j1
      repeat' first
      | (with_reducible exact ih0 _ _ _ _ _ _ _ _ _ _ _)
      | (with_reducible exact ih1 _ _ _ _ _ _ _ _ _)
      | (with_reducible exact ih2 _ _ _ _)
      | (with_reducible exact impl_ColumnSupport.mono _ _ _ _)
      | (with_reducible exact laws_eqInt64S.mono _ _ _)
      | (with_reducible exact laws_eqMatrix.mono _ _ _ _ _)
      | (with_reducible exact laws_heldMatrix.mono _ _ _ _)
      | (with_reducible exact laws_markInt64S.mono _ _ _)
      | (with_reducible exact laws_markMatrix.mono _ _ _ _)
      | (with_reducible exact laws_toInt64S.mono _ _)
      | (with_reducible exact spec_ColumnSupport.mono _ _ _ _)
      | (with_reducible exact LeO.refl _)
      | (with_reducible exact LeO.none _)
      | (with_reducible refine LeO.ite ?_ ?_)
      | (with_reducible refine LeO.bind ?_ (fun _ => ?_))
      | exact ih0 _ _ _ _ _ _ _ _ _ _ _
      | exact ih1 _ _ _ _ _ _ _ _ _
      | exact ih2 _ _ _ _
      | exact impl_ColumnSupport.mono _ _ _ _
      | exact laws_eqInt64S.mono _ _ _
      | exact laws_eqMatrix.mono _ _ _ _ _
      | exact laws_heldMatrix.mono _ _ _ _
      | exact laws_markInt64S.mono _ _ _
      | exact laws_markMatrix.mono _ _ _ _
      | exact laws_toInt64S.mono _ _
      | exact spec_ColumnSupport.mono _ _ _ _
      | exact LeO.none _
      | refine LeO.ite ?_ ?_
      | refine LeO.bind ?_ (fun _ => ?_)
    · intro y0 y1 y2 y3
      unfold laws_FnExactColumnSupport.j2
      repeat' first
      | (with_reducible exact ih0 _ _ _ _ _ _ _ _ _ _ _)
      | (with_reducible exact ih1 _ _ _ _ _ _ _ _ _)
      | (with_reducible exact ih2 _ _ _ _)
      | (with_reducible exact impl_ColumnSupport.mono _ _ _ _)
      | (with_reducible exact laws_eqInt64S.mono _ _ _)
      | (with_reducible exact laws_eqMatrix.mono _ _ _ _ _)
      | (with_reducible exact laws_heldMatrix.mono _ _ _ _)
      | (with_reducible exact laws_markInt64S.mono _ _ _)
      | (with_reducible exact laws_markMatrix.mono _ _ _ _)
      | (with_reducible exact laws_toInt64S.mono _ _)
      | (with_reducible exact spec_ColumnSupport.mono _ _ _ _)
      | (with_reducible exact LeO.refl _)
      | (with_reducible exact LeO.none _)
      | (with_reducible refine LeO.ite ?_ ?_)
      | (with_reducible refine LeO.bind ?_ (fun _ => ?_))
      | exact ih0 _ _ _ _ _ _ _ _ _ _ _
      | exact ih1 _ _ _ _ _ _ _ _ _
      | exact ih2 _ _ _ _
      | exact impl_ColumnSupport.mono _ _ _ _
      | exact laws_eqInt64S.mono _ _ _
      | exact laws_eqMatrix.mono _ _ _ _ _
      | exact laws_heldMatrix.mono _ _ _ _
      | exact laws_markInt64S.mono _ _ _
      | exact laws_markMatrix.mono _ _ _ _
      | exact laws_toInt64S.mono _ _
      | exact spec_ColumnSupport.mono _ _ _ _
      | exact LeO.none _
      | refine LeO.ite ?_ ?_
      | refine LeO.bind ?_ (fun _ => ?_)
theorem laws_FnExactColumnSupport.mono : ∀ a0 a1 a2 k, LeO (laws_FnExactColumnSupport.f k a0 a1 a2) (laws_FnExactColumnSupport.f (k + 1) a0 a1 a2) := by
  intro a0 a1 a2 k
  obtain ⟨ih0, ih1, ih2⟩ := laws_FnExactColumnSupport.mono_l k
  unfold laws_FnExactColumnSupport.f
  repeat' first
      | (with_reducible exact ih0 _ _ _ _ _ _ _ _ _ _ _)
      | (with_reducible exact ih1 _ _ _ _ _ _ _ _ _)
      | (with_reducible exact ih2 _ _ _ _)
      | (with_reducible exact impl_ColumnSupport.mono _ _ _ _)
      | (with_reducible exact laws_eqInt64S.mono _ _ _)
      | (with_reducible exact laws_eqMatrix.mono _ _ _ _ _)
      | (with_reducible exact laws_heldMatrix.mono _ _ _ _)
      | (with_reducible exact laws_markInt64S.mono _ _ _)
      | (with_reducible exact laws_markMatrix.mono _ _ _ _)
      | (with_reducible exact laws_toInt64S.mono _ _)
      | (with_reducible exact spec_ColumnSupport.mono _ _ _ _)
      | (with_reducible exact LeO.refl _)
      | (with_reducible exact LeO.none _)
      | (with_reducible refine LeO.ite ?_ ?_)
      | (with_reducible refine LeO.bind ?_ (fun _ => ?_))
      | exact ih0 _ _ _ _ _ _ _ _ _ _ _
      | exact ih1 _ _ _ _ _ _ _ _ _
      | exact ih2 _ _ _ _
      | exact impl_ColumnSupport.mono _ _ _ _
      | exact laws_eqInt64S.mono _ _ _
      | exact laws_eqMatrix.mono _ _ _ _ _
      | exact laws_heldMatrix.mono _ _ _ _
      | exact laws_markInt64S.mono _ _ _
      | exact laws_markMatrix.mono _ _ _ _
      | exact laws_toInt64S.mono _ _
      | exact spec_ColumnSupport.mono _ _ _ _
      | exact LeO.none _
      | refine LeO.ite ?_ ?_
      | refine LeO.bind ?_ (fun _ => ?_)
set_option maxHeartbeats 8000000 in
set_option maxRecDepth 100000 in
theorem laws_FnExactColumnSupport.calls (k : Nat) (a0_0 : Int) (a0_1 : Int) (A1 : Option Addr) (c1 : Nat) (l1 : List Int) (r : Bool) (w : World) (hr1 : Kd.C (Kd.int .i64) w A1 l1.length l1) (hc1 : l1.length ≤ c1) (h : laws_FnExactColumnSupport.f k a0_0 a0_1 l1 = some r) :
    Calls Try.prog 11 #[.agg #[.int .i64 a0_0, .int .i64 a0_1], .slice A1 l1.length c1] w fun e w' => e = .returned (.bool r) ∧ Below w.heap.size w w' := by
  have hu23 := Try.underlying23
  have hu26 := Try.underlying26
  have HR1 := Aside0.mk hr1
  have HC1 := Aside0.mk hc1
  clear hr1 hc1
  have HB := Aside0.mk (Below.refl w.heap.size w)
  have H : (if (l1.length : Int) > 1048576 then (some true) else ((laws_toField.f a0_0 a0_1).bind fun bt773 => ((laws_toInt64S.f k l1).bind fun t775 => ((spec_ColumnSupport.f k bt773.1 bt773.2 t775).bind fun bt778 => ((laws_toInt64S.f k l1).bind fun t784 => ((laws_toField.f a0_0 a0_1).bind fun bt787 => ((impl_ColumnSupport.f k bt787.1 bt787.2 t784).bind fun bt789 => ((laws_eqMatrix.f k bt789.1 bt789.2.1 bt778.1 bt778.2.1).bind fun t795 => (if t795 = true then (laws_FnExactColumnSupport.j0 k l1 bt778.2.2 t784 bt789.2.2 (bt789.2.2 != bt778.2.2) a0_0 a0_1 bt778.1 bt778.2.1 bt789.1 bt789.2.1) else (laws_FnExactColumnSupport.j0 k l1 bt778.2.2 t784 bt789.2.2 true a0_0 a0_1 bt778.1 bt778.2.1 bt789.1 bt789.2.1)))))))))) = some r := h
  clear h
  by_cases c3 : (l1.length : Int) > 1048576
  · rw [if_pos c3] at H
    have c3b0 : decide (1048576 < (l1.length : Int)) = true := decide_eq_true c3
    have c3b1 : decide (1048576 < l1.length) = true := decide_eq_true (by omega)
    clear c3
    obtain rfl := Option.some.inj H
    go_enter Try.func11, Try.ntmps11
    go_wp2_with (first | ((with_reducible refine gate_dst (N := 2) rfl ?_); refine box_event ?hg (N := 2) ?hd (cs := #[.int .i64 a0_0, .int .i64 a0_1]) (t := 23) ?hr ?_; (case hd => rfl); (case hg => rfl); (case hr => first | (go_simp; done) | (go_simp; rfl)); intro gb772 hg w4 hbox hb; have n0_ := Aside0.mk (below_step (by repeat (first | (with_reducible first | exact HB.out | apply below_alloc | apply pw_below_drewN | apply below_drew1) | exact HB.out)) hb); have n1_ := Aside0.mk (hbox); have n2_ := Aside0.mk ((by rw [hg]; exact (below_size (by repeat (first | (with_reducible first | exact HB.out | apply below_alloc | apply pw_below_drewN | apply below_drew1) | exact HB.out))) : w.heap.size ≤ gb772)); have n3_ := Aside0.mk ((by rw [hg]; exact (below_size (by repeat (first | (with_reducible first | exact HB.out | apply below_alloc | apply pw_below_drewN | apply below_drew1) | exact HB.out))) : w.heap.size ≤ gb772)); clear HB; have HB := n0_; have BK772 := n1_; have GW772 := n2_; have GE772 := n3_; clear n0_ n1_ n2_ n3_; clear hb hbox hg))
    go_ret
    exact ⟨by first | rfl | (simp [errW_none, errW_some] <;> rfl) | (simp [*, errW_none, errW_some] <;> rfl), by repeat (first | (with_reducible first | exact HB.out | apply below_alloc | apply pw_below_drewN | apply below_drew1 | refine below_set ?_ GE772.out) | exact HB.out)⟩
  · rw [if_neg c3] at H
    have c3b0 : decide (1048576 < (l1.length : Int)) = false := decide_eq_false c3
    have c3b1 : decide (1048576 < l1.length) = false := decide_eq_false (by omega)
    clear c3
    replace H := Option.bind_eq_some_iff.mp H
    obtain ⟨⟨t773, t774⟩, A50, H⟩ := H
    replace H : ((laws_toInt64S.f k l1).bind fun t775 => ((spec_ColumnSupport.f k t773 t774 t775).bind fun bt778 => ((laws_toInt64S.f k l1).bind fun t784 => ((laws_toField.f a0_0 a0_1).bind fun bt787 => ((impl_ColumnSupport.f k bt787.1 bt787.2 t784).bind fun bt789 => ((laws_eqMatrix.f k bt789.1 bt789.2.1 bt778.1 bt778.2.1).bind fun t795 => (if t795 = true then (laws_FnExactColumnSupport.j0 k l1 bt778.2.2 t784 bt789.2.2 (bt789.2.2 != bt778.2.2) a0_0 a0_1 bt778.1 bt778.2.1 bt789.1 bt789.2.1) else (laws_FnExactColumnSupport.j0 k l1 bt778.2.2 t784 bt789.2.2 true a0_0 a0_1 bt778.1 bt778.2.1 bt789.1 bt789.2.1)))))))) = some r := H
    have A5 := Aside0.mk A50
    clear A50
    replace H := Option.bind_eq_some_iff.mp H
    obtain ⟨t775, A60, H⟩ := H
    replace H : ((spec_ColumnSupport.f k t773 t774 t775).bind fun bt778 => ((laws_toInt64S.f k l1).bind fun t784 => ((laws_toField.f a0_0 a0_1).bind fun bt787 => ((impl_ColumnSupport.f k bt787.1 bt787.2 t784).bind fun bt789 => ((laws_eqMatrix.f k bt789.1 bt789.2.1 bt778.1 bt778.2.1).bind fun t795 => (if t795 = true then (laws_FnExactColumnSupport.j0 k l1 bt778.2.2 t784 bt789.2.2 (bt789.2.2 != bt778.2.2) a0_0 a0_1 bt778.1 bt778.2.1 bt789.1 bt789.2.1) else (laws_FnExactColumnSupport.j0 k l1 bt778.2.2 t784 bt789.2.2 true a0_0 a0_1 bt778.1 bt778.2.1 bt789.1 bt789.2.1))))))) = some r := H
    have A6 := Aside0.mk A60
    clear A60
    replace H := Option.bind_eq_some_iff.mp H
    obtain ⟨⟨t778, t779, t782⟩, A70, H⟩ := H
    replace H : ((laws_toInt64S.f k l1).bind fun t784 => ((laws_toField.f a0_0 a0_1).bind fun bt787 => ((impl_ColumnSupport.f k bt787.1 bt787.2 t784).bind fun bt789 => ((laws_eqMatrix.f k bt789.1 bt789.2.1 t778 t779).bind fun t795 => (if t795 = true then (laws_FnExactColumnSupport.j0 k l1 t782 t784 bt789.2.2 (bt789.2.2 != t782) a0_0 a0_1 t778 t779 bt789.1 bt789.2.1) else (laws_FnExactColumnSupport.j0 k l1 t782 t784 bt789.2.2 true a0_0 a0_1 t778 t779 bt789.1 bt789.2.1)))))) = some r := H
    have A7 := Aside0.mk A70
    clear A70
    replace H := Option.bind_eq_some_iff.mp H
    obtain ⟨t784, A80, H⟩ := H
    replace H : ((laws_toField.f a0_0 a0_1).bind fun bt787 => ((impl_ColumnSupport.f k bt787.1 bt787.2 t784).bind fun bt789 => ((laws_eqMatrix.f k bt789.1 bt789.2.1 t778 t779).bind fun t795 => (if t795 = true then (laws_FnExactColumnSupport.j0 k l1 t782 t784 bt789.2.2 (bt789.2.2 != t782) a0_0 a0_1 t778 t779 bt789.1 bt789.2.1) else (laws_FnExactColumnSupport.j0 k l1 t782 t784 bt789.2.2 true a0_0 a0_1 t778 t779 bt789.1 bt789.2.1))))) = some r := H
    have A8 := Aside0.mk A80
    clear A80
    replace H := Option.bind_eq_some_iff.mp H
    obtain ⟨⟨t787, t788⟩, A90, H⟩ := H
    replace H : ((impl_ColumnSupport.f k t787 t788 t784).bind fun bt789 => ((laws_eqMatrix.f k bt789.1 bt789.2.1 t778 t779).bind fun t795 => (if t795 = true then (laws_FnExactColumnSupport.j0 k l1 t782 t784 bt789.2.2 (bt789.2.2 != t782) a0_0 a0_1 t778 t779 bt789.1 bt789.2.1) else (laws_FnExactColumnSupport.j0 k l1 t782 t784 bt789.2.2 true a0_0 a0_1 t778 t779 bt789.1 bt789.2.1)))) = some r := H
    have A9 := Aside0.mk A90
    clear A90
    replace H := Option.bind_eq_some_iff.mp H
    obtain ⟨⟨t789, t790, t793⟩, A100, H⟩ := H
    replace H : ((laws_eqMatrix.f k t789 t790 t778 t779).bind fun t795 => (if t795 = true then (laws_FnExactColumnSupport.j0 k l1 t782 t784 t793 (t793 != t782) a0_0 a0_1 t778 t779 t789 t790) else (laws_FnExactColumnSupport.j0 k l1 t782 t784 t793 true a0_0 a0_1 t778 t779 t789 t790))) = some r := H
    have A10 := Aside0.mk A100
    clear A100
    have HC11 := Aside0.mk H
    clear H
    go_enter Try.func11, Try.ntmps11
    go_upto_region 6 with (first | ((with_reducible refine gate_dst (N := 2) rfl ?_); refine box_event ?hg (N := 2) ?hd (cs := #[.int .i64 a0_0, .int .i64 a0_1]) (t := 23) ?hr ?_; (case hd => rfl); (case hg => rfl); (case hr => first | (go_simp; done) | (go_simp; rfl)); intro gb772 hg w12 hbox hb; have n0_ := Aside0.mk (below_step (by repeat (first | (with_reducible first | exact HB.out | apply below_alloc | apply pw_below_drewN | apply below_drew1) | exact HB.out)) hb); have n1_ := Aside0.mk (hbox); have n2_ := Aside0.mk ((by rw [hg]; exact (below_size (by repeat (first | (with_reducible first | exact HB.out | apply below_alloc | apply pw_below_drewN | apply below_drew1) | exact HB.out))) : w.heap.size ≤ gb772)); have n3_ := Aside0.mk ((by rw [hg]; exact (below_size (by repeat (first | (with_reducible first | exact HB.out | apply below_alloc | apply pw_below_drewN | apply below_drew1) | exact HB.out))) : w.heap.size ≤ gb772)); clear HB; have HB := n0_; have BK772 := n1_; have GW772 := n2_; have GE772 := n3_; clear n0_ n1_ n2_ n3_; clear hb hbox hg; have hcz13_0 : w12.cell? ⟨gb772, 0, none⟩ = some (.int .i64 a0_0) := (blk_cell BK772.out 0).trans rfl; have hcz13_1 : w12.cell? ⟨gb772, 1, none⟩ = some (.int .i64 a0_1) := (blk_cell BK772.out 1).trans rfl; have hfz13_0 := blk_frozen BK772.out 0; have hfz13_1 := blk_frozen BK772.out 1) | ((with_reducible refine gate_callee (f := 18) rfl ?_); refine goesL_ (some 20) rfl rfl Try.func18 (by kernel_rfl) rfl #[.agg #[.int .i64 a0_0, .int .i64 a0_1]] rfl (by (try simp only [List.map_toArray, List.map_cons, List.map_nil]); first | done | rfl | (simp only [List.length_drop, List.length_take]; rfl)) ?_; (with_reducible refine (laws_toField.calls a0_0 a0_1 t773 t774 _ A5.out).mono ?_); rintro e w14 ⟨rfl, hb⟩; refine ⟨_, rfl, ?_⟩; have n0_ := Aside0.mk (blk_below (g := gb772) (o := .cells #[.int .i64 a0_0, .int .i64 a0_1] 23 (0, 0)) (by (with_reducible repeat (first | refine blk_drewN ?_ _ | refine blk_drew ?_ | refine blk_alloc ?_ _)); exact BK772.out) hb); have n1_ := Aside0.mk (below_step (by repeat (first | (with_reducible first | exact HB.out | apply below_alloc | apply pw_below_drewN | apply below_drew1 | refine below_set ?_ GE772.out) | exact HB.out)) hb); clear BK772; clear HB; have BK772 := n0_; have HB := n1_; clear n0_ n1_; (try clear hb); (try clear hb2); (try clear hk); (try clear hi)) | ((with_reducible refine gate_callee (f := 19) rfl ?_); refine goesL_ (some 22) rfl rfl Try.func19 (by kernel_rfl) rfl #[.slice A1 l1.length c1] rfl (by (try simp only [List.map_toArray, List.map_cons, List.map_nil]); first | done | rfl | (simp only [List.length_drop, List.length_take]; rfl)) ?_; (with_reducible refine (laws_toInt64S.calls k _ _ l1 t775 _ ?side1 ?side2 A6.out).mono ?_); (case side1 => repeat (first | exact (Kd.C_below HR1.out HB.out) | (with_reducible refine Kd.C_alloc ?_ _) | (with_reducible refine Kd.C_drewN ?_ _) | (with_reducible refine Kd.C_drew ?_))); (case side2 => exact HC1.out); rintro e w15 ⟨v776, rfl, ho0, hb⟩; refine ⟨_, rfl, ?_⟩; have n0_ := Aside0.mk (Kd.R_lower ho0 (below_size (by repeat (first | (with_reducible first | exact HB.out | apply below_alloc | apply pw_below_drewN | apply below_drew1 | refine below_set ?_ GE772.out) | exact HB.out)))); have n1_ := Aside0.mk (blk_below (g := gb772) (o := .cells #[.int .i64 a0_0, .int .i64 a0_1] 23 (0, 0)) (by (with_reducible repeat (first | refine blk_drewN ?_ _ | refine blk_drew ?_ | refine blk_alloc ?_ _)); exact BK772.out) hb); have n2_ := Aside0.mk (below_step (by repeat (first | (with_reducible first | exact HB.out | apply below_alloc | apply pw_below_drewN | apply below_drew1 | refine below_set ?_ GE772.out) | exact HB.out)) hb); clear BK772; clear HB; have HO777 := n0_; have BK772 := n1_; have HB := n2_; clear n0_ n1_ n2_; (try clear hb); (try clear hb2); (try clear hk); (try clear hi); (try clear ho0); obtain ⟨Ao16, co16, eo16⟩ := Kd.R_slice HO777.out; subst eo16) | ((with_reducible refine gate_callee (f := 44) rfl ?_); refine goesL_ (some 23) rfl rfl Try.func44 (by kernel_rfl) rfl #[.agg #[.int .i64 t773, .int .i64 t774], .slice Ao16 t775.length co16] rfl (by (try simp only [List.map_toArray, List.map_cons, List.map_nil]); first | done | rfl | (simp only [List.length_drop, List.length_take]; rfl)) ?_; (with_reducible refine (spec_ColumnSupport.calls k t773 t774 _ _ t775 t778 t779 t782 _ ?side1 ?side2 A7.out).mono ?_); (case side1 => repeat (first | exact (Kd.R_reads' HO777.out).2.2 | (with_reducible refine Kd.C_alloc ?_ _) | (with_reducible refine Kd.C_drewN ?_ _) | (with_reducible refine Kd.C_drew ?_))); (case side2 => exact (Kd.R_reads' HO777.out).2.1); rintro e w17 ⟨v780, rfl, ho0, hb⟩; refine ⟨_, rfl, ?_⟩; have n0_ := Aside0.mk (Kd.R_elder' (by (with_reducible repeat (first | apply Kd.R_alloc | apply Kd.R_drewN | apply Kd.R_drew)); exact HO777.out) (Kd.R_base ho0) hb); have n1_ := Aside0.mk (Kd.R_lower (Kd.R_new' ho0 (Kd.R_lt (by (with_reducible repeat (first | apply Kd.R_alloc | apply Kd.R_drewN | apply Kd.R_drew)); exact HO777.out))) (below_size (by repeat (first | (with_reducible first | exact HB.out | apply below_alloc | apply pw_below_drewN | apply below_drew1 | refine below_set ?_ GE772.out) | exact HB.out)))); have n2_ := Aside0.mk (blk_below (g := gb772) (o := .cells #[.int .i64 a0_0, .int .i64 a0_1] 23 (0, 0)) (by (with_reducible repeat (first | refine blk_drewN ?_ _ | refine blk_drew ?_ | refine blk_alloc ?_ _)); exact BK772.out) hb); have n3_ := Aside0.mk (below_step (by repeat (first | (with_reducible first | exact HB.out | apply below_alloc | apply pw_below_drewN | apply below_drew1 | refine below_set ?_ GE772.out) | exact HB.out)) hb); clear HO777; clear BK772; clear HB; have HO777 := n0_; have HO781 := n1_; have BK772 := n2_; have HB := n3_; clear n0_ n1_ n2_ n3_; (try clear hb); (try clear hb2); (try clear hk); (try clear hi); (try clear ho0)) | ((with_reducible refine gate_dst (N := 5) rfl ?_); refine box_event ?hg (N := 5) ?hd (cs := #[.int .i64 0, .slice none 0 0]) (t := 26) ?hr ?_; (case hd => rfl); (case hg => rfl); (case hr => first | (go_simp; done) | (go_simp; rfl)); intro gb783 hg w18 hbox hb; have n0_ := Aside0.mk (Kd.R_below (by (with_reducible repeat (first | apply Kd.R_alloc | apply Kd.R_drewN | apply Kd.R_drew)); exact HO777.out) hb); have n1_ := Aside0.mk (Kd.R_below (by (with_reducible repeat (first | apply Kd.R_alloc | apply Kd.R_drewN | apply Kd.R_drew)); exact HO781.out) hb); have n2_ := Aside0.mk (blk_below (g := gb772) (o := .cells #[.int .i64 a0_0, .int .i64 a0_1] 23 (0, 0)) (by (with_reducible repeat (first | refine blk_drewN ?_ _ | refine blk_drew ?_ | refine blk_alloc ?_ _)); exact BK772.out) hb); have n3_ := Aside0.mk (below_step (by repeat (first | (with_reducible first | exact HB.out | apply below_alloc | apply pw_below_drewN | apply below_drew1 | refine below_set ?_ GE772.out) | exact HB.out)) hb); have n4_ := Aside0.mk (hbox); have n5_ := Aside0.mk ((by rw [hg]; exact (below_size (by repeat (first | (with_reducible first | exact HB.out | apply below_alloc | apply pw_below_drewN | apply below_drew1 | refine below_set ?_ GE772.out) | exact HB.out))) : w.heap.size ≤ gb783)); have n6_ := Aside0.mk ((by rw [hg]; exact (below_size (by repeat (first | (with_reducible first | exact HB.out | apply below_alloc | apply pw_below_drewN | apply below_drew1 | refine below_set ?_ GE772.out) | exact HB.out))) : w.heap.size ≤ gb783)); have n7_ := Aside0.mk ((by rw [hg]; exact Nat.ne_of_lt (blk_lt (g := gb772) (o := .cells #[.int .i64 a0_0, .int .i64 a0_1] 23 (0, 0)) (by (with_reducible repeat (first | refine blk_drewN ?_ _ | refine blk_drew ?_ | refine blk_alloc ?_ _)); exact BK772.out)) : gb772 ≠ gb783)); have n8_ := Aside0.mk ((by rw [hg]; exact Nat.ne_of_gt (blk_lt (g := gb772) (o := .cells #[.int .i64 a0_0, .int .i64 a0_1] 23 (0, 0)) (by (with_reducible repeat (first | refine blk_drewN ?_ _ | refine blk_drew ?_ | refine blk_alloc ?_ _)); exact BK772.out)) : gb783 ≠ gb772)); clear HO777; clear HO781; clear BK772; clear HB; have HO777 := n0_; have HO781 := n1_; have BK772 := n2_; have HB := n3_; have BK783 := n4_; have GW783 := n5_; have GE783 := n6_; have NB772_783 := n7_; have NB783_772 := n8_; clear n0_ n1_ n2_ n3_ n4_ n5_ n6_ n7_ n8_; clear hb hbox hg; have hnb19 := NB783_772.out; have hnc19 := NB772_783.out; have hcz20_0 : w18.cell? ⟨gb783, 0, none⟩ = some (.int .i64 0) := (blk_cell BK783.out 0).trans rfl; have hcz20_1 : w18.cell? ⟨gb783, 1, none⟩ = some (.slice none 0 0) := (blk_cell BK783.out 1).trans rfl; have hfz20_0 := blk_frozen BK783.out 0; have hfz20_1 := blk_frozen BK783.out 1; obtain ⟨Ao21, co21, eo21⟩ := Kd.R_slice HO781.out; subst eo21) | ((with_reducible refine gate_callee (f := 19) rfl ?_); refine goesL_ (some 27) rfl rfl Try.func19 (by kernel_rfl) rfl #[.slice A1 l1.length c1] rfl (by (try simp only [List.map_toArray, List.map_cons, List.map_nil]); first | done | rfl | (simp only [List.length_drop, List.length_take]; rfl)) ?_; (with_reducible refine (laws_toInt64S.calls k _ _ l1 t784 _ ?side1 ?side2 A8.out).mono ?_); (case side1 => exact Kd.C_below HR1.out (by repeat (first | (with_reducible first | exact HB.out | apply below_alloc | apply pw_below_drewN | apply below_drew1 | refine below_set ?_ GE772.out | refine below_set ?_ GE783.out) | exact HB.out))); (case side2 => exact HC1.out); rintro e w22 ⟨v785, rfl, ho0, hb⟩; refine ⟨_, rfl, ?_⟩; have n0_ := Aside0.mk (Kd.R_elder' (by (with_reducible repeat (first | apply Kd.R_alloc | apply Kd.R_drewN | apply Kd.R_drew)); exact (Kd.R_mono (Kd.R_far (p := ⟨gb783, 1, none⟩) (Kd.R_far (p := ⟨gb783, 0, none⟩) (Kd.R_types HO777.out BK783.out (by decide)) (fun _ hk => hk.2) (.int .i64 t778)) (fun _ hk => hk.2) (.slice Ao21 t779.length co21)) (fun _ h_ => h_.1))) (Kd.R_base ho0) hb); have n1_ := Aside0.mk (Kd.R_elder' (by (with_reducible repeat (first | apply Kd.R_alloc | apply Kd.R_drewN | apply Kd.R_drew)); exact (Kd.R_mono (Kd.R_far (p := ⟨gb783, 1, none⟩) (Kd.R_far (p := ⟨gb783, 0, none⟩) (Kd.R_types HO781.out BK783.out (by decide)) (fun _ hk => hk.2) (.int .i64 t778)) (fun _ hk => hk.2) (.slice Ao21 t779.length co21)) (fun _ h_ => h_.1))) (Kd.R_base ho0) hb); have n2_ := Aside0.mk (Kd.R_lower (Kd.R_new' (Kd.R_new' ho0 (Kd.R_lt (by (with_reducible repeat (first | apply Kd.R_alloc | apply Kd.R_drewN | apply Kd.R_drew)); exact (Kd.R_mono (Kd.R_far (p := ⟨gb783, 1, none⟩) (Kd.R_far (p := ⟨gb783, 0, none⟩) (Kd.R_types HO777.out BK783.out (by decide)) (fun _ hk => hk.2) (.int .i64 t778)) (fun _ hk => hk.2) (.slice Ao21 t779.length co21)) (fun _ h_ => h_.1))))) (Kd.R_lt (by (with_reducible repeat (first | apply Kd.R_alloc | apply Kd.R_drewN | apply Kd.R_drew)); exact (Kd.R_mono (Kd.R_far (p := ⟨gb783, 1, none⟩) (Kd.R_far (p := ⟨gb783, 0, none⟩) (Kd.R_types HO781.out BK783.out (by decide)) (fun _ hk => hk.2) (.int .i64 t778)) (fun _ hk => hk.2) (.slice Ao21 t779.length co21)) (fun _ h_ => h_.1))))) (below_size (by repeat (first | (with_reducible first | exact HB.out | apply below_alloc | apply pw_below_drewN | apply below_drew1 | refine below_set ?_ GE772.out | refine below_set ?_ GE783.out) | exact HB.out)))); have n3_ := Aside0.mk (blk_below (g := gb772) (o := .cells #[.int .i64 a0_0, .int .i64 a0_1] 23 (0, 0)) (by (with_reducible repeat (first | refine blk_drewN ?_ _ | refine blk_drew ?_ | refine blk_alloc ?_ _)); refine blk_far ?_ NB772_783.out _; (with_reducible repeat (first | refine blk_drewN ?_ _ | refine blk_drew ?_ | refine blk_alloc ?_ _)); refine blk_far ?_ NB772_783.out _; (with_reducible repeat (first | refine blk_drewN ?_ _ | refine blk_drew ?_ | refine blk_alloc ?_ _)); exact BK772.out) hb); have n4_ := Aside0.mk (blk_below (g := gb783) (o := .cells #[.int .i64 t778, .slice Ao21 t779.length co21] 26 (0, 0)) (by (with_reducible repeat (first | refine blk_drewN ?_ _ | refine blk_drew ?_ | refine blk_alloc ?_ _)); refine blk_put (cs := #[.int .i64 t778, .slice none 0 0]) ?_ 1 _ rfl; (with_reducible repeat (first | refine blk_drewN ?_ _ | refine blk_drew ?_ | refine blk_alloc ?_ _)); refine blk_put (cs := #[.int .i64 0, .slice none 0 0]) ?_ 0 _ rfl; (with_reducible repeat (first | refine blk_drewN ?_ _ | refine blk_drew ?_ | refine blk_alloc ?_ _)); exact BK783.out) hb); have n5_ := Aside0.mk (below_step (by repeat (first | (with_reducible first | exact HB.out | apply below_alloc | apply pw_below_drewN | apply below_drew1 | refine below_set ?_ GE772.out | refine below_set ?_ GE783.out) | exact HB.out)) hb); clear HO777; clear HO781; clear BK772; clear BK783; clear HB; have HO777 := n0_; have HO781 := n1_; have HO786 := n2_; have BK772 := n3_; have BK783 := n4_; have HB := n5_; clear n0_ n1_ n2_ n3_ n4_ n5_; (try clear hb); (try clear hb2); (try clear hk); (try clear hi); (try clear ho0); have hcz23_0 : w22.cell? ⟨gb772, 0, none⟩ = some (.int .i64 a0_0) := (blk_cell BK772.out 0).trans rfl; have hcz23_1 : w22.cell? ⟨gb772, 1, none⟩ = some (.int .i64 a0_1) := (blk_cell BK772.out 1).trans rfl; have hfz23_0 := blk_frozen BK772.out 0; have hfz23_1 := blk_frozen BK772.out 1) | ((with_reducible refine gate_callee (f := 18) rfl ?_); refine goesL_ (some 30) rfl rfl Try.func18 (by kernel_rfl) rfl #[.agg #[.int .i64 a0_0, .int .i64 a0_1]] rfl (by (try simp only [List.map_toArray, List.map_cons, List.map_nil]); first | done | rfl | (simp only [List.length_drop, List.length_take]; rfl)) ?_; (with_reducible refine (laws_toField.calls a0_0 a0_1 t787 t788 _ A9.out).mono ?_); rintro e w24 ⟨rfl, hb⟩; refine ⟨_, rfl, ?_⟩; have n0_ := Aside0.mk (Kd.R_below (by (with_reducible repeat (first | apply Kd.R_alloc | apply Kd.R_drewN | apply Kd.R_drew)); exact HO777.out) hb); have n1_ := Aside0.mk (Kd.R_below (by (with_reducible repeat (first | apply Kd.R_alloc | apply Kd.R_drewN | apply Kd.R_drew)); exact HO781.out) hb); have n2_ := Aside0.mk (Kd.R_below (by (with_reducible repeat (first | apply Kd.R_alloc | apply Kd.R_drewN | apply Kd.R_drew)); exact HO786.out) hb); have n3_ := Aside0.mk (blk_below (g := gb772) (o := .cells #[.int .i64 a0_0, .int .i64 a0_1] 23 (0, 0)) (by (with_reducible repeat (first | refine blk_drewN ?_ _ | refine blk_drew ?_ | refine blk_alloc ?_ _)); exact BK772.out) hb); have n4_ := Aside0.mk (blk_below (g := gb783) (o := .cells #[.int .i64 t778, .slice Ao21 t779.length co21] 26 (0, 0)) (by (with_reducible repeat (first | refine blk_drewN ?_ _ | refine blk_drew ?_ | refine blk_alloc ?_ _)); exact BK783.out) hb); have n5_ := Aside0.mk (below_step (by repeat (first | (with_reducible first | exact HB.out | apply below_alloc | apply pw_below_drewN | apply below_drew1 | refine below_set ?_ GE772.out | refine below_set ?_ GE783.out) | exact HB.out)) hb); clear HO777; clear HO781; clear HO786; clear BK772; clear BK783; clear HB; have HO777 := n0_; have HO781 := n1_; have HO786 := n2_; have BK772 := n3_; have BK783 := n4_; have HB := n5_; clear n0_ n1_ n2_ n3_ n4_ n5_; (try clear hb); (try clear hb2); (try clear hk); (try clear hi); obtain ⟨Ao25, co25, eo25⟩ := Kd.R_slice HO786.out; subst eo25) | ((with_reducible refine gate_callee (f := 45) rfl ?_); refine goesL_ (some 32) rfl rfl Try.func45 (by kernel_rfl) rfl #[.agg #[.int .i64 t787, .int .i64 t788], .slice Ao25 t784.length co25] rfl (by (try simp only [List.map_toArray, List.map_cons, List.map_nil]); first | done | rfl | (simp only [List.length_drop, List.length_take]; rfl)) ?_; (with_reducible refine (impl_ColumnSupport.calls k t787 t788 (fun k_ => some k_ = (.slice Ao25 t784.length co25 : Value).ownBlock) _ _ t784 t789 t790 t793 _ ?side1 A10.out).mono ?_); (case side1 => exact Kd.R_V (Kd.R_tight rfl (Kd.R_types (Kd.R_types (HO786.out) BK772.out (by decide)) BK783.out (by decide)))); rintro e w26 ⟨v791, rfl, ho0, hb⟩; refine ⟨_, rfl, ?_⟩; have n0_ := Aside0.mk (Kd.R_elder' (by (with_reducible repeat (first | apply Kd.R_alloc | apply Kd.R_drewN | apply Kd.R_drew)); exact HO777.out) (Kd.R_base ho0) hb); have n1_ := Aside0.mk (Kd.R_elder' (by (with_reducible repeat (first | apply Kd.R_alloc | apply Kd.R_drewN | apply Kd.R_drew)); exact HO781.out) (Kd.R_base ho0) hb); have n2_ := Aside0.mk (Kd.R_elder' (by (with_reducible repeat (first | apply Kd.R_alloc | apply Kd.R_drewN | apply Kd.R_drew)); exact HO786.out) (Kd.R_base ho0) hb); have n3_ := Aside0.mk (Kd.R_lower (Kd.R_new' (Kd.R_new' (Kd.R_new' (Kd.R_mono (ok' := fun k_ => True) ho0 (fun _ hk_ => trivial)) (Kd.R_lt (by (with_reducible repeat (first | apply Kd.R_alloc | apply Kd.R_drewN | apply Kd.R_drew)); exact HO777.out))) (Kd.R_lt (by (with_reducible repeat (first | apply Kd.R_alloc | apply Kd.R_drewN | apply Kd.R_drew)); exact HO781.out))) (Kd.R_lt (by (with_reducible repeat (first | apply Kd.R_alloc | apply Kd.R_drewN | apply Kd.R_drew)); exact HO786.out))) (below_size (by repeat (first | (with_reducible first | exact HB.out | apply below_alloc | apply pw_below_drewN | apply below_drew1 | refine below_set ?_ GE772.out | refine below_set ?_ GE783.out) | exact HB.out)))); have n4_ := Aside0.mk (blk_below (g := gb772) (o := .cells #[.int .i64 a0_0, .int .i64 a0_1] 23 (0, 0)) (by (with_reducible repeat (first | refine blk_drewN ?_ _ | refine blk_drew ?_ | refine blk_alloc ?_ _)); exact BK772.out) hb); have n5_ := Aside0.mk (blk_below (g := gb783) (o := .cells #[.int .i64 t778, .slice Ao21 t779.length co21] 26 (0, 0)) (by (with_reducible repeat (first | refine blk_drewN ?_ _ | refine blk_drew ?_ | refine blk_alloc ?_ _)); exact BK783.out) hb); have n6_ := Aside0.mk (below_step (by repeat (first | (with_reducible first | exact HB.out | apply below_alloc | apply pw_below_drewN | apply below_drew1 | refine below_set ?_ GE772.out | refine below_set ?_ GE783.out) | exact HB.out)) hb); clear HO777; clear HO781; clear HO786; clear BK772; clear BK783; clear HB; have HO777 := n0_; have HO781 := n1_; have HO786 := n2_; have HO792 := n3_; have BK772 := n4_; have BK783 := n5_; have HB := n6_; clear n0_ n1_ n2_ n3_ n4_ n5_ n6_; (try clear hb); (try clear hb2); (try clear hk); (try clear hi); (try clear ho0)) | ((with_reducible refine gate_dst (N := 8) rfl ?_); refine box_event ?hg (N := 8) ?hd (cs := #[.int .i64 0, .slice none 0 0]) (t := 26) ?hr ?_; (case hd => rfl); (case hg => rfl); (case hr => first | (go_simp; done) | (go_simp; rfl)); intro gb794 hg w27 hbox hb; have n0_ := Aside0.mk (Kd.R_below (by (with_reducible repeat (first | apply Kd.R_alloc | apply Kd.R_drewN | apply Kd.R_drew)); exact HO777.out) hb); have n1_ := Aside0.mk (Kd.R_below (by (with_reducible repeat (first | apply Kd.R_alloc | apply Kd.R_drewN | apply Kd.R_drew)); exact HO781.out) hb); have n2_ := Aside0.mk (Kd.R_below (by (with_reducible repeat (first | apply Kd.R_alloc | apply Kd.R_drewN | apply Kd.R_drew)); exact HO786.out) hb); have n3_ := Aside0.mk (Kd.R_below (by (with_reducible repeat (first | apply Kd.R_alloc | apply Kd.R_drewN | apply Kd.R_drew)); exact HO792.out) hb); have n4_ := Aside0.mk (blk_below (g := gb772) (o := .cells #[.int .i64 a0_0, .int .i64 a0_1] 23 (0, 0)) (by (with_reducible repeat (first | refine blk_drewN ?_ _ | refine blk_drew ?_ | refine blk_alloc ?_ _)); exact BK772.out) hb); have n5_ := Aside0.mk (blk_below (g := gb783) (o := .cells #[.int .i64 t778, .slice Ao21 t779.length co21] 26 (0, 0)) (by (with_reducible repeat (first | refine blk_drewN ?_ _ | refine blk_drew ?_ | refine blk_alloc ?_ _)); exact BK783.out) hb); have n6_ := Aside0.mk (below_step (by repeat (first | (with_reducible first | exact HB.out | apply below_alloc | apply pw_below_drewN | apply below_drew1 | refine below_set ?_ GE772.out | refine below_set ?_ GE783.out) | exact HB.out)) hb); have n7_ := Aside0.mk (hbox); have n8_ := Aside0.mk ((by rw [hg]; exact (below_size (by repeat (first | (with_reducible first | exact HB.out | apply below_alloc | apply pw_below_drewN | apply below_drew1 | refine below_set ?_ GE772.out | refine below_set ?_ GE783.out) | exact HB.out))) : w.heap.size ≤ gb794)); have n9_ := Aside0.mk ((by rw [hg]; exact (below_size (by repeat (first | (with_reducible first | exact HB.out | apply below_alloc | apply pw_below_drewN | apply below_drew1 | refine below_set ?_ GE772.out | refine below_set ?_ GE783.out) | exact HB.out))) : w.heap.size ≤ gb794)); have n10_ := Aside0.mk ((by rw [hg]; exact Nat.ne_of_lt (blk_lt (g := gb772) (o := .cells #[.int .i64 a0_0, .int .i64 a0_1] 23 (0, 0)) (by (with_reducible repeat (first | refine blk_drewN ?_ _ | refine blk_drew ?_ | refine blk_alloc ?_ _)); exact BK772.out)) : gb772 ≠ gb794)); have n11_ := Aside0.mk ((by rw [hg]; exact Nat.ne_of_gt (blk_lt (g := gb772) (o := .cells #[.int .i64 a0_0, .int .i64 a0_1] 23 (0, 0)) (by (with_reducible repeat (first | refine blk_drewN ?_ _ | refine blk_drew ?_ | refine blk_alloc ?_ _)); exact BK772.out)) : gb794 ≠ gb772)); have n12_ := Aside0.mk ((by rw [hg]; exact Nat.ne_of_lt (blk_lt (g := gb783) (o := .cells #[.int .i64 t778, .slice Ao21 t779.length co21] 26 (0, 0)) (by (with_reducible repeat (first | refine blk_drewN ?_ _ | refine blk_drew ?_ | refine blk_alloc ?_ _)); exact BK783.out)) : gb783 ≠ gb794)); have n13_ := Aside0.mk ((by rw [hg]; exact Nat.ne_of_gt (blk_lt (g := gb783) (o := .cells #[.int .i64 t778, .slice Ao21 t779.length co21] 26 (0, 0)) (by (with_reducible repeat (first | refine blk_drewN ?_ _ | refine blk_drew ?_ | refine blk_alloc ?_ _)); exact BK783.out)) : gb794 ≠ gb783)); clear HO777; clear HO781; clear HO786; clear HO792; clear BK772; clear BK783; clear HB; have HO777 := n0_; have HO781 := n1_; have HO786 := n2_; have HO792 := n3_; have BK772 := n4_; have BK783 := n5_; have HB := n6_; have BK794 := n7_; have GW794 := n8_; have GE794 := n9_; have NB772_794 := n10_; have NB794_772 := n11_; have NB783_794 := n12_; have NB794_783 := n13_; clear n0_ n1_ n2_ n3_ n4_ n5_ n6_ n7_ n8_ n9_ n10_ n11_ n12_ n13_; clear hb hbox hg; have hnb28 := NB794_772.out; have hnc28 := NB772_794.out; have hnb29 := NB794_783.out; have hnc29 := NB783_794.out; have hcz30_0 : w27.cell? ⟨gb794, 0, none⟩ = some (.int .i64 0) := (blk_cell BK794.out 0).trans rfl; have hcz30_1 : w27.cell? ⟨gb794, 1, none⟩ = some (.slice none 0 0) := (blk_cell BK794.out 1).trans rfl; have hfz30_0 := blk_frozen BK794.out 0; have hfz30_1 := blk_frozen BK794.out 1; obtain ⟨Ao31, co31, eo31⟩ := Kd.R_slice HO792.out; subst eo31))
    (try simp only [Act.put, List.setIfInBounds_toArray, List.set_cons_zero, List.set_cons_succ])
    go_cut [43] (fun v43 wc => ∃ (kq : Nat) (x43_10 : Bool), v43 = .bool x43_10 ∧ Aside0 (laws_FnExactColumnSupport.j0 kq l1 t782 t784 t793 x43_10 a0_0 a0_1 t778 t779 t789 t790 = some r) ∧ Aside0 (kq ≤ k) ∧ Aside0 (Kd.R (Kd.int .i64) 2 wc w.heap.size (fun k_ => some k_ ≠ ((.slice Ao21 t779.length co21) : Value).ownBlock ∧ some k_ ≠ ((.slice Ao31 t790.length co31) : Value).ownBlock) (.slice Ao25 t784.length co25) t784) ∧ Aside0 (Kd.R (Kd.int .i64) 2 wc w.heap.size (fun k_ => some k_ ≠ ((.slice Ao25 t784.length co25) : Value).ownBlock ∧ some k_ ≠ ((.slice Ao31 t790.length co31) : Value).ownBlock) (.slice Ao21 t779.length co21) t779) ∧ Aside0 (Kd.R (Kd.int .i64) 2 wc w.heap.size (fun k_ => some k_ ≠ ((.slice Ao25 t784.length co25) : Value).ownBlock ∧ some k_ ≠ ((.slice Ao21 t779.length co21) : Value).ownBlock) (.slice Ao31 t790.length co31) t790) ∧ Aside0 (wc.heap[gb772]? = some (.cells #[.int .i64 a0_0, .int .i64 a0_1] 23 (0, 0))) ∧ Aside0 (wc.heap[gb783]? = some (.cells #[.int .i64 t778, (.slice Ao21 t779.length co21)] 26 (0, 0))) ∧ Aside0 (wc.heap[gb794]? = some (.cells #[.int .i64 t789, (.slice Ao31 t790.length co31)] 26 (0, 0))) ∧ Aside0 (Below w.heap.size w wc))
    case first =>
      have H := HC11.out
      clear HC11
      replace H := Option.bind_eq_some_iff.mp H
      obtain ⟨t795, A320, H⟩ := H
      replace H : (if t795 = true then (laws_FnExactColumnSupport.j0 k l1 t782 t784 t793 (t793 != t782) a0_0 a0_1 t778 t779 t789 t790) else (laws_FnExactColumnSupport.j0 k l1 t782 t784 t793 true a0_0 a0_1 t778 t779 t789 t790)) = some r := H
      have A32 := Aside0.mk A320
      clear A320
      by_cases c33 : t795 = true
      · subst c33
        have H1 : (laws_FnExactColumnSupport.j0 k l1 t782 t784 t793 (t793 != t782) a0_0 a0_1 t778 t779 t789 t790) = some r := by rw [if_pos rfl] at H; exact H
        clear H
        have H := H1
        clear H1
        have H' := Aside0.mk H
        clear H
        have hnb34 := NB794_772.out
        have hnc34 := NB772_794.out
        have hnb35 := NB794_783.out
        have hnc35 := NB783_794.out
        have hcz36_0 : w27.cell? ⟨gb794, 0, none⟩ = some (.int .i64 0) := (blk_cell BK794.out 0).trans rfl
        have hcz36_1 : w27.cell? ⟨gb794, 1, none⟩ = some (.slice none 0 0) := (blk_cell BK794.out 1).trans rfl
        have hfz36_0 := blk_frozen BK794.out 0
        have hfz36_1 := blk_frozen BK794.out 1
        have hnb37 := NB783_772.out
        have hnc37 := NB772_783.out
        have hcz38_0 : w27.cell? ⟨gb783, 0, none⟩ = some (.int .i64 t778) := (blk_cell BK783.out 0).trans rfl
        have hcz38_1 : w27.cell? ⟨gb783, 1, none⟩ = some (.slice Ao21 t779.length co21) := (blk_cell BK783.out 1).trans rfl
        have hfz38_0 := blk_frozen BK783.out 0
        have hfz38_1 := blk_frozen BK783.out 1
        go_wp2_with (first | ((with_reducible refine gate_callee (f := 21) rfl ?_); refine goesL_ (some 37) rfl rfl Try.func21 (by kernel_rfl) rfl #[.agg #[.int .i64 t789, .slice Ao31 t790.length co31], .agg #[.int .i64 t778, .slice Ao21 t779.length co21]] rfl (by (try simp only [List.map_toArray, List.map_cons, List.map_nil]); first | done | rfl | (simp only [List.length_drop, List.length_take]; rfl)) ?_; (with_reducible refine (laws_eqMatrix.calls k t789 _ _ t790 t778 _ _ t779 true _ ?side1 ?side2 ?side3 ?side4 A32.out).mono ?_); (case side1 => refine (Kd.R_reads' (e := 2) (base := w.heap.size) (ok := fun k_ => (((True ∧ some k_ ≠ (.slice Ao16 t775.length co16 : Value).ownBlock) ∧ some k_ ≠ (.slice Ao21 t779.length co21 : Value).ownBlock) ∧ some k_ ≠ (.slice Ao25 t784.length co25 : Value).ownBlock)) (n := t790.length) (c := co31) ?_).2.2; exact (by (with_reducible repeat (first | apply Kd.R_alloc | apply Kd.R_drewN | apply Kd.R_drew)); exact (Kd.R_mono (Kd.R_far (p := ⟨gb794, 1, none⟩) (Kd.R_far (p := ⟨gb794, 0, none⟩) (Kd.R_types HO792.out BK794.out (by decide)) (fun _ hk => hk.2) (.int .i64 t789)) (fun _ hk => hk.2) (.slice Ao31 t790.length co31)) (fun _ h_ => h_.1)))); (case side2 => exact (Kd.R_reads' HO792.out).2.1); (case side3 => refine (Kd.R_reads' (e := 2) (base := w.heap.size) (ok := fun k_ => (((True ∧ some k_ ≠ (.slice Ao16 t775.length co16 : Value).ownBlock) ∧ some k_ ≠ (.slice Ao25 t784.length co25 : Value).ownBlock) ∧ some k_ ≠ (.slice Ao31 t790.length co31 : Value).ownBlock)) (n := t779.length) (c := co21) ?_).2.2; exact (by (with_reducible repeat (first | apply Kd.R_alloc | apply Kd.R_drewN | apply Kd.R_drew)); exact (Kd.R_mono (Kd.R_far (p := ⟨gb794, 1, none⟩) (Kd.R_far (p := ⟨gb794, 0, none⟩) (Kd.R_types HO781.out BK794.out (by decide)) (fun _ hk => hk.2) (.int .i64 t789)) (fun _ hk => hk.2) (.slice Ao31 t790.length co31)) (fun _ h_ => h_.1)))); (case side4 => exact (Kd.R_reads' HO781.out).2.1); rintro e w39 ⟨rfl, hb⟩; refine ⟨_, rfl, ?_⟩; have n0_ := Aside0.mk (Kd.R_below (by (with_reducible repeat (first | apply Kd.R_alloc | apply Kd.R_drewN | apply Kd.R_drew)); exact (Kd.R_mono (Kd.R_far (p := ⟨gb794, 1, none⟩) (Kd.R_far (p := ⟨gb794, 0, none⟩) (Kd.R_types HO777.out BK794.out (by decide)) (fun _ hk => hk.2) (.int .i64 t789)) (fun _ hk => hk.2) (.slice Ao31 t790.length co31)) (fun _ h_ => h_.1))) hb); have n1_ := Aside0.mk (Kd.R_below (by (with_reducible repeat (first | apply Kd.R_alloc | apply Kd.R_drewN | apply Kd.R_drew)); exact (Kd.R_mono (Kd.R_far (p := ⟨gb794, 1, none⟩) (Kd.R_far (p := ⟨gb794, 0, none⟩) (Kd.R_types HO781.out BK794.out (by decide)) (fun _ hk => hk.2) (.int .i64 t789)) (fun _ hk => hk.2) (.slice Ao31 t790.length co31)) (fun _ h_ => h_.1))) hb); have n2_ := Aside0.mk (Kd.R_below (by (with_reducible repeat (first | apply Kd.R_alloc | apply Kd.R_drewN | apply Kd.R_drew)); exact (Kd.R_mono (Kd.R_far (p := ⟨gb794, 1, none⟩) (Kd.R_far (p := ⟨gb794, 0, none⟩) (Kd.R_types HO786.out BK794.out (by decide)) (fun _ hk => hk.2) (.int .i64 t789)) (fun _ hk => hk.2) (.slice Ao31 t790.length co31)) (fun _ h_ => h_.1))) hb); have n3_ := Aside0.mk (Kd.R_below (by (with_reducible repeat (first | apply Kd.R_alloc | apply Kd.R_drewN | apply Kd.R_drew)); exact (Kd.R_mono (Kd.R_far (p := ⟨gb794, 1, none⟩) (Kd.R_far (p := ⟨gb794, 0, none⟩) (Kd.R_types HO792.out BK794.out (by decide)) (fun _ hk => hk.2) (.int .i64 t789)) (fun _ hk => hk.2) (.slice Ao31 t790.length co31)) (fun _ h_ => h_.1))) hb); have n4_ := Aside0.mk (blk_below (g := gb772) (o := .cells #[.int .i64 a0_0, .int .i64 a0_1] 23 (0, 0)) (by (with_reducible repeat (first | refine blk_drewN ?_ _ | refine blk_drew ?_ | refine blk_alloc ?_ _)); refine blk_far ?_ NB772_794.out _; (with_reducible repeat (first | refine blk_drewN ?_ _ | refine blk_drew ?_ | refine blk_alloc ?_ _)); refine blk_far ?_ NB772_794.out _; (with_reducible repeat (first | refine blk_drewN ?_ _ | refine blk_drew ?_ | refine blk_alloc ?_ _)); exact BK772.out) hb); have n5_ := Aside0.mk (blk_below (g := gb783) (o := .cells #[.int .i64 t778, .slice Ao21 t779.length co21] 26 (0, 0)) (by (with_reducible repeat (first | refine blk_drewN ?_ _ | refine blk_drew ?_ | refine blk_alloc ?_ _)); refine blk_far ?_ NB783_794.out _; (with_reducible repeat (first | refine blk_drewN ?_ _ | refine blk_drew ?_ | refine blk_alloc ?_ _)); refine blk_far ?_ NB783_794.out _; (with_reducible repeat (first | refine blk_drewN ?_ _ | refine blk_drew ?_ | refine blk_alloc ?_ _)); exact BK783.out) hb); have n6_ := Aside0.mk (blk_below (g := gb794) (o := .cells #[.int .i64 t789, .slice Ao31 t790.length co31] 26 (0, 0)) (by (with_reducible repeat (first | refine blk_drewN ?_ _ | refine blk_drew ?_ | refine blk_alloc ?_ _)); refine blk_put (cs := #[.int .i64 t789, .slice none 0 0]) ?_ 1 _ rfl; (with_reducible repeat (first | refine blk_drewN ?_ _ | refine blk_drew ?_ | refine blk_alloc ?_ _)); refine blk_put (cs := #[.int .i64 0, .slice none 0 0]) ?_ 0 _ rfl; (with_reducible repeat (first | refine blk_drewN ?_ _ | refine blk_drew ?_ | refine blk_alloc ?_ _)); exact BK794.out) hb); have n7_ := Aside0.mk (below_step (by repeat (first | (with_reducible first | exact HB.out | apply below_alloc | apply pw_below_drewN | apply below_drew1 | refine below_set ?_ GE772.out | refine below_set ?_ GE783.out | refine below_set ?_ GE794.out) | exact HB.out)) hb); clear HO777; clear HO781; clear HO786; clear HO792; clear BK772; clear BK783; clear BK794; clear HB; have HO777 := n0_; have HO781 := n1_; have HO786 := n2_; have HO792 := n3_; have BK772 := n4_; have BK783 := n5_; have BK794 := n6_; have HB := n7_; clear n0_ n1_ n2_ n3_ n4_ n5_ n6_ n7_; (try clear hb); (try clear hb2); (try clear hk); (try clear hi)))
        go_meet
        case rel => exact ⟨_, ((t793 != t782)), (by first | rfl | (simp; done) | (simp [*]; done)), H', ⟨by first | omega | exact Nat.le_refl _⟩, ⟨by (with_reducible repeat (first | apply Kd.R_alloc | apply Kd.R_drewN | apply Kd.R_drew)); exact Kd.R_mono HO786.out (fun _ hk => ⟨hk.1.2, hk.2⟩)⟩, ⟨by (with_reducible repeat (first | apply Kd.R_alloc | apply Kd.R_drewN | apply Kd.R_drew)); exact Kd.R_mono HO781.out (fun _ hk => ⟨hk.1.2, hk.2⟩)⟩, ⟨by (with_reducible repeat (first | apply Kd.R_alloc | apply Kd.R_drewN | apply Kd.R_drew)); exact Kd.R_mono HO792.out (fun _ hk => ⟨hk.2, hk.1.2⟩)⟩, ⟨by (with_reducible repeat (first | refine blk_drewN ?_ _ | refine blk_drew ?_ | refine blk_alloc ?_ _)); exact BK772.out⟩, ⟨by (with_reducible repeat (first | refine blk_drewN ?_ _ | refine blk_drew ?_ | refine blk_alloc ?_ _)); exact BK783.out⟩, ⟨by (with_reducible repeat (first | refine blk_drewN ?_ _ | refine blk_drew ?_ | refine blk_alloc ?_ _)); exact BK794.out⟩, ⟨by repeat (first | (with_reducible first | exact HB.out | apply below_alloc | apply pw_below_drewN | apply below_drew1 | refine below_set ?_ GE772.out | refine below_set ?_ GE783.out | refine below_set ?_ GE794.out) | exact HB.out)⟩⟩
      · replace c33 := Bool.eq_false_iff.mpr c33
        subst c33
        have H1 : (laws_FnExactColumnSupport.j0 k l1 t782 t784 t793 true a0_0 a0_1 t778 t779 t789 t790) = some r := by rw [if_neg (show ¬ (false = true) by decide)] at H; exact H
        clear H
        have H := H1
        clear H1
        have H' := Aside0.mk H
        clear H
        have hnb40 := NB794_772.out
        have hnc40 := NB772_794.out
        have hnb41 := NB794_783.out
        have hnc41 := NB783_794.out
        have hcz42_0 : w27.cell? ⟨gb794, 0, none⟩ = some (.int .i64 0) := (blk_cell BK794.out 0).trans rfl
        have hcz42_1 : w27.cell? ⟨gb794, 1, none⟩ = some (.slice none 0 0) := (blk_cell BK794.out 1).trans rfl
        have hfz42_0 := blk_frozen BK794.out 0
        have hfz42_1 := blk_frozen BK794.out 1
        have hnb43 := NB783_772.out
        have hnc43 := NB772_783.out
        have hcz44_0 : w27.cell? ⟨gb783, 0, none⟩ = some (.int .i64 t778) := (blk_cell BK783.out 0).trans rfl
        have hcz44_1 : w27.cell? ⟨gb783, 1, none⟩ = some (.slice Ao21 t779.length co21) := (blk_cell BK783.out 1).trans rfl
        have hfz44_0 := blk_frozen BK783.out 0
        have hfz44_1 := blk_frozen BK783.out 1
        go_wp2_with (first | ((with_reducible refine gate_callee (f := 21) rfl ?_); refine goesL_ (some 37) rfl rfl Try.func21 (by kernel_rfl) rfl #[.agg #[.int .i64 t789, .slice Ao31 t790.length co31], .agg #[.int .i64 t778, .slice Ao21 t779.length co21]] rfl (by (try simp only [List.map_toArray, List.map_cons, List.map_nil]); first | done | rfl | (simp only [List.length_drop, List.length_take]; rfl)) ?_; (with_reducible refine (laws_eqMatrix.calls k t789 _ _ t790 t778 _ _ t779 false _ ?side1 ?side2 ?side3 ?side4 A32.out).mono ?_); (case side1 => refine (Kd.R_reads' (e := 2) (base := w.heap.size) (ok := fun k_ => (((True ∧ some k_ ≠ (.slice Ao16 t775.length co16 : Value).ownBlock) ∧ some k_ ≠ (.slice Ao21 t779.length co21 : Value).ownBlock) ∧ some k_ ≠ (.slice Ao25 t784.length co25 : Value).ownBlock)) (n := t790.length) (c := co31) ?_).2.2; exact (by (with_reducible repeat (first | apply Kd.R_alloc | apply Kd.R_drewN | apply Kd.R_drew)); exact (Kd.R_mono (Kd.R_far (p := ⟨gb794, 1, none⟩) (Kd.R_far (p := ⟨gb794, 0, none⟩) (Kd.R_types HO792.out BK794.out (by decide)) (fun _ hk => hk.2) (.int .i64 t789)) (fun _ hk => hk.2) (.slice Ao31 t790.length co31)) (fun _ h_ => h_.1)))); (case side2 => exact (Kd.R_reads' HO792.out).2.1); (case side3 => refine (Kd.R_reads' (e := 2) (base := w.heap.size) (ok := fun k_ => (((True ∧ some k_ ≠ (.slice Ao16 t775.length co16 : Value).ownBlock) ∧ some k_ ≠ (.slice Ao25 t784.length co25 : Value).ownBlock) ∧ some k_ ≠ (.slice Ao31 t790.length co31 : Value).ownBlock)) (n := t779.length) (c := co21) ?_).2.2; exact (by (with_reducible repeat (first | apply Kd.R_alloc | apply Kd.R_drewN | apply Kd.R_drew)); exact (Kd.R_mono (Kd.R_far (p := ⟨gb794, 1, none⟩) (Kd.R_far (p := ⟨gb794, 0, none⟩) (Kd.R_types HO781.out BK794.out (by decide)) (fun _ hk => hk.2) (.int .i64 t789)) (fun _ hk => hk.2) (.slice Ao31 t790.length co31)) (fun _ h_ => h_.1)))); (case side4 => exact (Kd.R_reads' HO781.out).2.1); rintro e w45 ⟨rfl, hb⟩; refine ⟨_, rfl, ?_⟩; have n0_ := Aside0.mk (Kd.R_below (by (with_reducible repeat (first | apply Kd.R_alloc | apply Kd.R_drewN | apply Kd.R_drew)); exact (Kd.R_mono (Kd.R_far (p := ⟨gb794, 1, none⟩) (Kd.R_far (p := ⟨gb794, 0, none⟩) (Kd.R_types HO777.out BK794.out (by decide)) (fun _ hk => hk.2) (.int .i64 t789)) (fun _ hk => hk.2) (.slice Ao31 t790.length co31)) (fun _ h_ => h_.1))) hb); have n1_ := Aside0.mk (Kd.R_below (by (with_reducible repeat (first | apply Kd.R_alloc | apply Kd.R_drewN | apply Kd.R_drew)); exact (Kd.R_mono (Kd.R_far (p := ⟨gb794, 1, none⟩) (Kd.R_far (p := ⟨gb794, 0, none⟩) (Kd.R_types HO781.out BK794.out (by decide)) (fun _ hk => hk.2) (.int .i64 t789)) (fun _ hk => hk.2) (.slice Ao31 t790.length co31)) (fun _ h_ => h_.1))) hb); have n2_ := Aside0.mk (Kd.R_below (by (with_reducible repeat (first | apply Kd.R_alloc | apply Kd.R_drewN | apply Kd.R_drew)); exact (Kd.R_mono (Kd.R_far (p := ⟨gb794, 1, none⟩) (Kd.R_far (p := ⟨gb794, 0, none⟩) (Kd.R_types HO786.out BK794.out (by decide)) (fun _ hk => hk.2) (.int .i64 t789)) (fun _ hk => hk.2) (.slice Ao31 t790.length co31)) (fun _ h_ => h_.1))) hb); have n3_ := Aside0.mk (Kd.R_below (by (with_reducible repeat (first | apply Kd.R_alloc | apply Kd.R_drewN | apply Kd.R_drew)); exact (Kd.R_mono (Kd.R_far (p := ⟨gb794, 1, none⟩) (Kd.R_far (p := ⟨gb794, 0, none⟩) (Kd.R_types HO792.out BK794.out (by decide)) (fun _ hk => hk.2) (.int .i64 t789)) (fun _ hk => hk.2) (.slice Ao31 t790.length co31)) (fun _ h_ => h_.1))) hb); have n4_ := Aside0.mk (blk_below (g := gb772) (o := .cells #[.int .i64 a0_0, .int .i64 a0_1] 23 (0, 0)) (by (with_reducible repeat (first | refine blk_drewN ?_ _ | refine blk_drew ?_ | refine blk_alloc ?_ _)); refine blk_far ?_ NB772_794.out _; (with_reducible repeat (first | refine blk_drewN ?_ _ | refine blk_drew ?_ | refine blk_alloc ?_ _)); refine blk_far ?_ NB772_794.out _; (with_reducible repeat (first | refine blk_drewN ?_ _ | refine blk_drew ?_ | refine blk_alloc ?_ _)); exact BK772.out) hb); have n5_ := Aside0.mk (blk_below (g := gb783) (o := .cells #[.int .i64 t778, .slice Ao21 t779.length co21] 26 (0, 0)) (by (with_reducible repeat (first | refine blk_drewN ?_ _ | refine blk_drew ?_ | refine blk_alloc ?_ _)); refine blk_far ?_ NB783_794.out _; (with_reducible repeat (first | refine blk_drewN ?_ _ | refine blk_drew ?_ | refine blk_alloc ?_ _)); refine blk_far ?_ NB783_794.out _; (with_reducible repeat (first | refine blk_drewN ?_ _ | refine blk_drew ?_ | refine blk_alloc ?_ _)); exact BK783.out) hb); have n6_ := Aside0.mk (blk_below (g := gb794) (o := .cells #[.int .i64 t789, .slice Ao31 t790.length co31] 26 (0, 0)) (by (with_reducible repeat (first | refine blk_drewN ?_ _ | refine blk_drew ?_ | refine blk_alloc ?_ _)); refine blk_put (cs := #[.int .i64 t789, .slice none 0 0]) ?_ 1 _ rfl; (with_reducible repeat (first | refine blk_drewN ?_ _ | refine blk_drew ?_ | refine blk_alloc ?_ _)); refine blk_put (cs := #[.int .i64 0, .slice none 0 0]) ?_ 0 _ rfl; (with_reducible repeat (first | refine blk_drewN ?_ _ | refine blk_drew ?_ | refine blk_alloc ?_ _)); exact BK794.out) hb); have n7_ := Aside0.mk (below_step (by repeat (first | (with_reducible first | exact HB.out | apply below_alloc | apply pw_below_drewN | apply below_drew1 | refine below_set ?_ GE772.out | refine below_set ?_ GE783.out | refine below_set ?_ GE794.out) | exact HB.out)) hb); clear HO777; clear HO781; clear HO786; clear HO792; clear BK772; clear BK783; clear BK794; clear HB; have HO777 := n0_; have HO781 := n1_; have HO786 := n2_; have HO792 := n3_; have BK772 := n4_; have BK783 := n5_; have BK794 := n6_; have HB := n7_; clear n0_ n1_ n2_ n3_ n4_ n5_ n6_ n7_; (try clear hb); (try clear hb2); (try clear hk); (try clear hi)))
        go_meet
        case rel => exact ⟨_, (true), (by first | rfl | (simp; done) | (simp [*]; done)), H', ⟨by first | omega | exact Nat.le_refl _⟩, ⟨by (with_reducible repeat (first | apply Kd.R_alloc | apply Kd.R_drewN | apply Kd.R_drew)); exact Kd.R_mono HO786.out (fun _ hk => ⟨hk.1.2, hk.2⟩)⟩, ⟨by (with_reducible repeat (first | apply Kd.R_alloc | apply Kd.R_drewN | apply Kd.R_drew)); exact Kd.R_mono HO781.out (fun _ hk => ⟨hk.1.2, hk.2⟩)⟩, ⟨by (with_reducible repeat (first | apply Kd.R_alloc | apply Kd.R_drewN | apply Kd.R_drew)); exact Kd.R_mono HO792.out (fun _ hk => ⟨hk.2, hk.1.2⟩)⟩, ⟨by (with_reducible repeat (first | refine blk_drewN ?_ _ | refine blk_drew ?_ | refine blk_alloc ?_ _)); exact BK772.out⟩, ⟨by (with_reducible repeat (first | refine blk_drewN ?_ _ | refine blk_drew ?_ | refine blk_alloc ?_ _)); exact BK783.out⟩, ⟨by (with_reducible repeat (first | refine blk_drewN ?_ _ | refine blk_drew ?_ | refine blk_alloc ?_ _)); exact BK794.out⟩, ⟨by repeat (first | (with_reducible first | exact HB.out | apply below_alloc | apply pw_below_drewN | apply below_drew1 | refine below_set ?_ GE772.out | refine below_set ?_ GE783.out | refine below_set ?_ GE794.out) | exact HB.out)⟩⟩
    case rest =>
      clear HC11
      try clear c1
      try clear c2
      try clear p2
      try clear c3
      try clear c3b0
      try clear c3b1
      try clear c4
      try clear c11
      try clear c18
      try clear c19
      try clear c21
      try clear c28
      try clear c29
      try clear c33
      try clear c34
      try clear c35
      try clear c37
      try clear c40
      try clear c41
      try clear c43
      try clear c44
      try clear c45
      try clear hcz13_0
      try clear hcz13_1
      try clear hcz20_0
      try clear hcz20_1
      try clear hcz23_0
      try clear hcz23_1
      try clear hcz30_0
      try clear hcz30_1
      try clear hcz36_0
      try clear hcz36_1
      try clear hcz38_0
      try clear hcz38_1
      try clear hcz42_0
      try clear hcz42_1
      try clear hcz44_0
      try clear hcz44_1
      try clear hfz13_0
      try clear hfz13_1
      try clear hfz20_0
      try clear hfz20_1
      try clear hfz23_0
      try clear hfz23_1
      try clear hfz30_0
      try clear hfz30_1
      try clear hfz36_0
      try clear hfz36_1
      try clear hfz38_0
      try clear hfz38_1
      try clear hfz42_0
      try clear hfz42_1
      try clear hfz44_0
      try clear hfz44_1
      obtain ⟨kq, x43_10, rfl, HA, HJ10, HO_7, HO_784001, HO_795001, BK772, BK783, BK794, HB⟩ := hcut
      cases kq with
      | zero => exact absurd HA.out (by simp [laws_FnExactColumnSupport.j0])
      | succ kj10 =>
        have H := HA.out
        clear HA
        simp only [laws_FnExactColumnSupport.j0] at H
        by_cases c46 : x43_10 = true
        · subst c46
          have H1 : (some false) = some r := by rw [if_pos rfl] at H; exact H
          clear H
          have H := H1
          clear H1
          obtain rfl := Option.some.inj H
          go_wp2
          go_ret
          exact ⟨by first | rfl | (simp [errW_none, errW_some] <;> rfl) | (simp [*, errW_none, errW_some] <;> rfl), by repeat (first | (with_reducible first | exact HB.out | apply below_alloc | apply pw_below_drewN | apply below_drew1 | refine below_set ?_ GE772.out | refine below_set ?_ GE783.out | refine below_set ?_ GE794.out) | exact HB.out)⟩
        · replace c46 := Bool.eq_false_iff.mpr c46
          subst c46
          have H1 : ((laws_toInt64S.f kj10 l1).bind fun t796 => ((laws_eqInt64S.f kj10 t784 t796).bind fun t799 => (if t799 = true then ((laws_markInt64S.f kj10 t784 1).bind fun bt800 => (if bt800.1 < 0 then (laws_FnExactColumnSupport.j1 kj10 l1 t782 true a0_0 a0_1 t778 t779 t789 t790) else ((laws_eqMatrix.f kj10 t789 t790 t778 t779).bind fun t802 => (if t802 = true then (laws_FnExactColumnSupport.j1 kj10 l1 t782 (t793 != t782) a0_0 a0_1 t778 t779 t789 t790) else (laws_FnExactColumnSupport.j1 kj10 l1 t782 true a0_0 a0_1 t778 t779 t789 t790))))) else (some false)))) = some r := by rw [if_neg (show ¬ (false = true) by decide)] at H; exact H
          clear H
          have H := H1
          clear H1
          replace H := Option.bind_eq_some_iff.mp H
          obtain ⟨t796, A470, H⟩ := H
          replace H : ((laws_eqInt64S.f kj10 t784 t796).bind fun t799 => (if t799 = true then ((laws_markInt64S.f kj10 t784 1).bind fun bt800 => (if bt800.1 < 0 then (laws_FnExactColumnSupport.j1 kj10 l1 t782 true a0_0 a0_1 t778 t779 t789 t790) else ((laws_eqMatrix.f kj10 t789 t790 t778 t779).bind fun t802 => (if t802 = true then (laws_FnExactColumnSupport.j1 kj10 l1 t782 (t793 != t782) a0_0 a0_1 t778 t779 t789 t790) else (laws_FnExactColumnSupport.j1 kj10 l1 t782 true a0_0 a0_1 t778 t779 t789 t790))))) else (some false))) = some r := H
          have A47 := Aside0.mk A470
          clear A470
          replace H := Option.bind_eq_some_iff.mp H
          obtain ⟨t799, A480, H⟩ := H
          replace H : (if t799 = true then ((laws_markInt64S.f kj10 t784 1).bind fun bt800 => (if bt800.1 < 0 then (laws_FnExactColumnSupport.j1 kj10 l1 t782 true a0_0 a0_1 t778 t779 t789 t790) else ((laws_eqMatrix.f kj10 t789 t790 t778 t779).bind fun t802 => (if t802 = true then (laws_FnExactColumnSupport.j1 kj10 l1 t782 (t793 != t782) a0_0 a0_1 t778 t779 t789 t790) else (laws_FnExactColumnSupport.j1 kj10 l1 t782 true a0_0 a0_1 t778 t779 t789 t790))))) else (some false)) = some r := H
          have A48 := Aside0.mk A480
          clear A480
          by_cases c49 : t799 = true
          · subst c49
            have H1 : ((laws_markInt64S.f kj10 t784 1).bind fun bt800 => (if bt800.1 < 0 then (laws_FnExactColumnSupport.j1 kj10 l1 t782 true a0_0 a0_1 t778 t779 t789 t790) else ((laws_eqMatrix.f kj10 t789 t790 t778 t779).bind fun t802 => (if t802 = true then (laws_FnExactColumnSupport.j1 kj10 l1 t782 (t793 != t782) a0_0 a0_1 t778 t779 t789 t790) else (laws_FnExactColumnSupport.j1 kj10 l1 t782 true a0_0 a0_1 t778 t779 t789 t790))))) = some r := by rw [if_pos rfl] at H; exact H
            clear H
            have H := H1
            clear H1
            replace H := Option.bind_eq_some_iff.mp H
            obtain ⟨⟨t800, t801⟩, A500, H⟩ := H
            replace H : (if t800 < 0 then (laws_FnExactColumnSupport.j1 kj10 l1 t782 true a0_0 a0_1 t778 t779 t789 t790) else ((laws_eqMatrix.f kj10 t789 t790 t778 t779).bind fun t802 => (if t802 = true then (laws_FnExactColumnSupport.j1 kj10 l1 t782 (t793 != t782) a0_0 a0_1 t778 t779 t789 t790) else (laws_FnExactColumnSupport.j1 kj10 l1 t782 true a0_0 a0_1 t778 t779 t789 t790)))) = some r := H
            have A50 := Aside0.mk A500
            clear A500
            have HC51 := Aside0.mk H
            clear H
            go_upto_region 12 with (first | ((with_reducible refine gate_callee (f := 19) rfl ?_); refine goesL_ (some 46) rfl rfl Try.func19 (by kernel_rfl) rfl #[.slice A1 l1.length c1] rfl (by (try simp only [List.map_toArray, List.map_cons, List.map_nil]); first | done | rfl | (simp only [List.length_drop, List.length_take]; rfl)) ?_; (with_reducible refine (laws_toInt64S.calls kj10 _ _ l1 t796 _ ?side1 ?side2 A47.out).mono ?_); (case side1 => repeat (first | exact (Kd.C_below HR1.out HB.out) | (with_reducible refine Kd.C_alloc ?_ _) | (with_reducible refine Kd.C_drewN ?_ _) | (with_reducible refine Kd.C_drew ?_))); (case side2 => exact HC1.out); rintro e w52 ⟨v797, rfl, ho0, hb⟩; refine ⟨_, rfl, ?_⟩; have n0_ := Aside0.mk (Kd.R_elder' (by (with_reducible repeat (first | apply Kd.R_alloc | apply Kd.R_drewN | apply Kd.R_drew)); exact HO_7.out) (Kd.R_base ho0) hb); have n1_ := Aside0.mk (Kd.R_elder' (by (with_reducible repeat (first | apply Kd.R_alloc | apply Kd.R_drewN | apply Kd.R_drew)); exact HO_784001.out) (Kd.R_base ho0) hb); have n2_ := Aside0.mk (Kd.R_elder' (by (with_reducible repeat (first | apply Kd.R_alloc | apply Kd.R_drewN | apply Kd.R_drew)); exact HO_795001.out) (Kd.R_base ho0) hb); have n3_ := Aside0.mk (Kd.R_lower (Kd.R_new' (Kd.R_new' (Kd.R_new' ho0 (Kd.R_lt (by (with_reducible repeat (first | apply Kd.R_alloc | apply Kd.R_drewN | apply Kd.R_drew)); exact HO_7.out))) (Kd.R_lt (by (with_reducible repeat (first | apply Kd.R_alloc | apply Kd.R_drewN | apply Kd.R_drew)); exact HO_784001.out))) (Kd.R_lt (by (with_reducible repeat (first | apply Kd.R_alloc | apply Kd.R_drewN | apply Kd.R_drew)); exact HO_795001.out))) (below_size (by repeat (first | (with_reducible first | exact HB.out | apply below_alloc | apply pw_below_drewN | apply below_drew1 | refine below_set ?_ GE772.out | refine below_set ?_ GE783.out | refine below_set ?_ GE794.out) | exact HB.out)))); have n4_ := Aside0.mk (blk_below (g := gb772) (o := .cells #[.int .i64 a0_0, .int .i64 a0_1] 23 (0, 0)) (by (with_reducible repeat (first | refine blk_drewN ?_ _ | refine blk_drew ?_ | refine blk_alloc ?_ _)); exact BK772.out) hb); have n5_ := Aside0.mk (blk_below (g := gb783) (o := .cells #[.int .i64 t778, .slice Ao21 t779.length co21] 26 (0, 0)) (by (with_reducible repeat (first | refine blk_drewN ?_ _ | refine blk_drew ?_ | refine blk_alloc ?_ _)); exact BK783.out) hb); have n6_ := Aside0.mk (blk_below (g := gb794) (o := .cells #[.int .i64 t789, .slice Ao31 t790.length co31] 26 (0, 0)) (by (with_reducible repeat (first | refine blk_drewN ?_ _ | refine blk_drew ?_ | refine blk_alloc ?_ _)); exact BK794.out) hb); have n7_ := Aside0.mk (below_step (by repeat (first | (with_reducible first | exact HB.out | apply below_alloc | apply pw_below_drewN | apply below_drew1 | refine below_set ?_ GE772.out | refine below_set ?_ GE783.out | refine below_set ?_ GE794.out) | exact HB.out)) hb); clear HO_7; clear HO_784001; clear HO_795001; clear BK772; clear BK783; clear BK794; clear HB; have HO_7 := n0_; have HO_784001 := n1_; have HO_795001 := n2_; have HO798 := n3_; have BK772 := n4_; have BK783 := n5_; have BK794 := n6_; have HB := n7_; clear n0_ n1_ n2_ n3_ n4_ n5_ n6_ n7_; (try clear hb); (try clear hb2); (try clear hk); (try clear hi); (try clear ho0); obtain ⟨Ao53, co53, eo53⟩ := Kd.R_slice HO798.out; subst eo53) | ((with_reducible refine gate_callee (f := 22) rfl ?_); refine goesL_ (some 47) rfl rfl Try.func22 (by kernel_rfl) rfl #[.slice Ao25 t784.length co25, .slice Ao53 t796.length co53] rfl (by (try simp only [List.map_toArray, List.map_cons, List.map_nil]); first | done | rfl | (simp only [List.length_drop, List.length_take]; rfl)) ?_; (with_reducible refine (laws_eqInt64S.calls kj10 _ _ t784 _ _ t796 true _ ?side1 ?side2 ?side3 ?side4 A48.out).mono ?_); (case side1 => repeat (first | exact (Kd.R_reads' HO_7.out).2.2 | (with_reducible refine Kd.C_alloc ?_ _) | (with_reducible refine Kd.C_drewN ?_ _) | (with_reducible refine Kd.C_drew ?_))); (case side2 => exact (Kd.R_reads' HO_7.out).2.1); (case side3 => repeat (first | exact (Kd.R_reads' HO798.out).2.2 | (with_reducible refine Kd.C_alloc ?_ _) | (with_reducible refine Kd.C_drewN ?_ _) | (with_reducible refine Kd.C_drew ?_))); (case side4 => exact (Kd.R_reads' HO798.out).2.1); rintro e w' ⟨rfl, ⟨nd, rfl⟩⟩; refine ⟨_, rfl, ?_⟩) | ((with_reducible refine gate_callee (f := 23) rfl ?_); refine goesL_ (some 51) rfl rfl Try.func23 (by kernel_rfl) rfl #[.slice Ao25 t784.length co25, .int .i64 1] rfl (by (try simp only [List.map_toArray, List.map_cons, List.map_nil]); first | done | rfl | (simp only [List.length_drop, List.length_take]; rfl)) ?_; (with_reducible refine (laws_markInt64S.calls kj10 (fun k_ => some k_ = (.slice Ao25 t784.length co25 : Value).ownBlock) (.slice Ao25 t784.length co25) t784 1 t800 t801 w _ ?side1 ?side2 A50.out).mono ?_); (case side1 => repeat (first | (with_reducible first | exact HB.out | apply below_alloc | apply pw_below_drewN | apply below_drew1 | refine below_set ?_ GE772.out | refine below_set ?_ GE783.out | refine below_set ?_ GE794.out) | exact HB.out)); (case side2 => exact Kd.R_tight rfl HO_7.out); rintro e w54 ⟨rfl, hy0, hb, hkp⟩; refine ⟨_, rfl, ?_⟩; have n0_ := Aside0.mk (Kd.R_reok rfl hy0 (fun k_ e_ => HO_7.out.1 k_ e_)); have n1_ := Aside0.mk (Kd.R_mono (ok' := fun k_ => some k_ ≠ (.slice Ao25 t784.length co25 : Value).ownBlock ∧ some k_ ≠ (.slice Ao31 t790.length co31 : Value).ownBlock ∧ some k_ ≠ (.slice Ao53 t796.length co53 : Value).ownBlock) (Kd.R_keptB (HO_784001.out) hkp (fun k_ hk_ hs_ => (hk_.1.1) hs_)) (fun k_ hk_ => ⟨hk_.1.1.1, hk_.1.1.2, hk_.1.2⟩)); have n2_ := Aside0.mk (Kd.R_mono (ok' := fun k_ => some k_ ≠ (.slice Ao25 t784.length co25 : Value).ownBlock ∧ some k_ ≠ (.slice Ao21 t779.length co21 : Value).ownBlock ∧ some k_ ≠ (.slice Ao53 t796.length co53 : Value).ownBlock) (Kd.R_keptB (HO_795001.out) hkp (fun k_ hk_ hs_ => (hk_.1.1) hs_)) (fun k_ hk_ => ⟨hk_.1.1.1, hk_.1.1.2, hk_.1.2⟩)); have n3_ := Aside0.mk (blk_kept (by (with_reducible repeat (first | refine blk_drewN ?_ _ | refine blk_drew ?_ | refine blk_alloc ?_ _)); exact BK772.out) hkp (fun hs_ => (fun e_ => (Kd.R_ne HO_7.out BK772.out (by decide)) e_) hs_)); have n4_ := Aside0.mk (blk_kept (by (with_reducible repeat (first | refine blk_drewN ?_ _ | refine blk_drew ?_ | refine blk_alloc ?_ _)); exact BK783.out) hkp (fun hs_ => (fun e_ => (Kd.R_ne HO_7.out BK783.out (by decide)) e_) hs_)); have n5_ := Aside0.mk (blk_kept (by (with_reducible repeat (first | refine blk_drewN ?_ _ | refine blk_drew ?_ | refine blk_alloc ?_ _)); exact BK794.out) hkp (fun hs_ => (fun e_ => (Kd.R_ne HO_7.out BK794.out (by decide)) e_) hs_)); have n6_ := Aside0.mk (Kd.R_mono (ok' := fun k_ => some k_ ≠ (.slice Ao25 t784.length co25 : Value).ownBlock ∧ some k_ ≠ (.slice Ao21 t779.length co21 : Value).ownBlock ∧ some k_ ≠ (.slice Ao31 t790.length co31 : Value).ownBlock) (Kd.R_keptB (HO798.out) hkp (fun k_ hk_ hs_ => (hk_.1.1.2) hs_)) (fun k_ hk_ => ⟨hk_.1.1.1.2, hk_.1.1.2, hk_.1.2⟩)); have n7_ := Aside0.mk (hb); clear HO_7; clear HO_784001; clear HO_795001; clear BK772; clear BK783; clear BK794; clear HO798; clear HB; have HO_7 := n0_; have HO_784001 := n1_; have HO_795001 := n2_; have BK772 := n3_; have BK783 := n4_; have BK794 := n5_; have HO798 := n6_; have HB := n7_; clear n0_ n1_ n2_ n3_ n4_ n5_ n6_ n7_; (try clear hb); (try clear hkp); (try clear hy0)))
            (try simp only [Act.put, List.setIfInBounds_toArray, List.set_cons_zero, List.set_cons_succ])
            go_cut [64] (fun v64 wc => ∃ (kq : Nat) (x64_50 : Bool), v64 = .bool x64_50 ∧ Aside0 (laws_FnExactColumnSupport.j1 kq l1 t782 x64_50 a0_0 a0_1 t778 t779 t789 t790 = some r) ∧ Aside0 (kq ≤ kj10) ∧ Aside0 (Kd.R (Kd.int .i64) 2 wc w.heap.size (fun k_ => some k_ ≠ ((.slice Ao31 t790.length co31) : Value).ownBlock) (.slice Ao21 t779.length co21) t779) ∧ Aside0 (Kd.R (Kd.int .i64) 2 wc w.heap.size (fun k_ => some k_ ≠ ((.slice Ao21 t779.length co21) : Value).ownBlock) (.slice Ao31 t790.length co31) t790) ∧ Aside0 (wc.heap[gb772]? = some (.cells #[.int .i64 a0_0, .int .i64 a0_1] 23 (0, 0))) ∧ Aside0 (wc.heap[gb783]? = some (.cells #[.int .i64 t778, (.slice Ao21 t779.length co21)] 26 (0, 0))) ∧ Aside0 (wc.heap[gb794]? = some (.cells #[.int .i64 t789, (.slice Ao31 t790.length co31)] 26 (0, 0))) ∧ Aside0 (Below w.heap.size w wc))
            case first =>
              have H := HC51.out
              clear HC51
              by_cases c55 : t800 < 0
              · rw [if_pos c55] at H
                have c55b0 : decide (t800 < 0) = true := decide_eq_true c55
                clear c55
                (first | rw [c55b0] | (simp only [i64_w, i32_w]; rw [c55b0]) | skip)
                have H' := Aside0.mk H
                clear H
                go_wp2
                go_meet
                case rel => exact ⟨_, (true), (by first | rfl | (simp; done) | (simp [*]; done)), H', ⟨by have := HJ10.out; first | omega | exact Nat.le_refl _⟩, ⟨by (with_reducible repeat (first | apply Kd.R_alloc | apply Kd.R_drewN | apply Kd.R_drew)); exact Kd.R_mono HO_784001.out (fun _ hk => hk.2.1)⟩, ⟨by (with_reducible repeat (first | apply Kd.R_alloc | apply Kd.R_drewN | apply Kd.R_drew)); exact Kd.R_mono HO_795001.out (fun _ hk => hk.2.1)⟩, ⟨by (with_reducible repeat (first | refine blk_drewN ?_ _ | refine blk_drew ?_ | refine blk_alloc ?_ _)); exact BK772.out⟩, ⟨by (with_reducible repeat (first | refine blk_drewN ?_ _ | refine blk_drew ?_ | refine blk_alloc ?_ _)); exact BK783.out⟩, ⟨by (with_reducible repeat (first | refine blk_drewN ?_ _ | refine blk_drew ?_ | refine blk_alloc ?_ _)); exact BK794.out⟩, ⟨by repeat (first | (with_reducible first | exact HB.out | apply below_alloc | apply pw_below_drewN | apply below_drew1 | refine below_set ?_ GE772.out | refine below_set ?_ GE783.out | refine below_set ?_ GE794.out) | exact HB.out)⟩⟩
              · rw [if_neg c55] at H
                have c55b0 : decide (t800 < 0) = false := decide_eq_false c55
                clear c55
                (first | rw [c55b0] | (simp only [i64_w, i32_w]; rw [c55b0]) | skip)
                replace H := Option.bind_eq_some_iff.mp H
                obtain ⟨t802, A560, H⟩ := H
                replace H : (if t802 = true then (laws_FnExactColumnSupport.j1 kj10 l1 t782 (t793 != t782) a0_0 a0_1 t778 t779 t789 t790) else (laws_FnExactColumnSupport.j1 kj10 l1 t782 true a0_0 a0_1 t778 t779 t789 t790)) = some r := H
                have A56 := Aside0.mk A560
                clear A560
                by_cases c57 : t802 = true
                · subst c57
                  have H1 : (laws_FnExactColumnSupport.j1 kj10 l1 t782 (t793 != t782) a0_0 a0_1 t778 t779 t789 t790) = some r := by rw [if_pos rfl] at H; exact H
                  clear H
                  have H := H1
                  clear H1
                  have H' := Aside0.mk H
                  clear H
                  have hnb58 := NB794_772.out
                  have hnc58 := NB772_794.out
                  have hnb59 := NB794_783.out
                  have hnc59 := NB783_794.out
                  have hcz60_0 : w54.cell? ⟨gb794, 0, none⟩ = some (.int .i64 t789) := (blk_cell BK794.out 0).trans rfl
                  have hcz60_1 : w54.cell? ⟨gb794, 1, none⟩ = some (.slice Ao31 t790.length co31) := (blk_cell BK794.out 1).trans rfl
                  have hfz60_0 := blk_frozen BK794.out 0
                  have hfz60_1 := blk_frozen BK794.out 1
                  have hnb61 := NB783_772.out
                  have hnc61 := NB772_783.out
                  have hcz62_0 : w54.cell? ⟨gb783, 0, none⟩ = some (.int .i64 t778) := (blk_cell BK783.out 0).trans rfl
                  have hcz62_1 : w54.cell? ⟨gb783, 1, none⟩ = some (.slice Ao21 t779.length co21) := (blk_cell BK783.out 1).trans rfl
                  have hfz62_0 := blk_frozen BK783.out 0
                  have hfz62_1 := blk_frozen BK783.out 1
                  go_wp2_with (first | (go_at_call 21; (with_reducible refine (laws_eqMatrix.calls kj10 t789 _ _ t790 t778 _ _ t779 true _ ?side1 ?side2 ?side3 ?side4 A56.out).mono ?_); (case side1 => repeat (first | exact (Kd.R_reads' HO_795001.out).2.2 | (with_reducible refine Kd.C_alloc ?_ _) | (with_reducible refine Kd.C_drewN ?_ _) | (with_reducible refine Kd.C_drew ?_))); (case side2 => exact (Kd.R_reads' HO_795001.out).2.1); (case side3 => repeat (first | exact (Kd.R_reads' HO_784001.out).2.2 | (with_reducible refine Kd.C_alloc ?_ _) | (with_reducible refine Kd.C_drewN ?_ _) | (with_reducible refine Kd.C_drew ?_))); (case side4 => exact (Kd.R_reads' HO_784001.out).2.1); rintro e w63 ⟨rfl, hb⟩; have n0_ := Aside0.mk (Kd.R_below (by (with_reducible repeat (first | apply Kd.R_alloc | apply Kd.R_drewN | apply Kd.R_drew)); exact HO_7.out) hb); have n1_ := Aside0.mk (Kd.R_below (by (with_reducible repeat (first | apply Kd.R_alloc | apply Kd.R_drewN | apply Kd.R_drew)); exact HO_784001.out) hb); have n2_ := Aside0.mk (Kd.R_below (by (with_reducible repeat (first | apply Kd.R_alloc | apply Kd.R_drewN | apply Kd.R_drew)); exact HO_795001.out) hb); have n3_ := Aside0.mk (Kd.R_below (by (with_reducible repeat (first | apply Kd.R_alloc | apply Kd.R_drewN | apply Kd.R_drew)); exact HO798.out) hb); have n4_ := Aside0.mk (blk_below (g := gb772) (o := .cells #[.int .i64 a0_0, .int .i64 a0_1] 23 (0, 0)) (by (with_reducible repeat (first | refine blk_drewN ?_ _ | refine blk_drew ?_ | refine blk_alloc ?_ _)); exact BK772.out) hb); have n5_ := Aside0.mk (blk_below (g := gb783) (o := .cells #[.int .i64 t778, .slice Ao21 t779.length co21] 26 (0, 0)) (by (with_reducible repeat (first | refine blk_drewN ?_ _ | refine blk_drew ?_ | refine blk_alloc ?_ _)); exact BK783.out) hb); have n6_ := Aside0.mk (blk_below (g := gb794) (o := .cells #[.int .i64 t789, .slice Ao31 t790.length co31] 26 (0, 0)) (by (with_reducible repeat (first | refine blk_drewN ?_ _ | refine blk_drew ?_ | refine blk_alloc ?_ _)); exact BK794.out) hb); have n7_ := Aside0.mk (below_step (by repeat (first | (with_reducible first | exact HB.out | apply below_alloc | apply pw_below_drewN | apply below_drew1 | refine below_set ?_ GE772.out | refine below_set ?_ GE783.out | refine below_set ?_ GE794.out) | exact HB.out)) hb); clear HO_7; clear HO_784001; clear HO_795001; clear HO798; clear BK772; clear BK783; clear BK794; clear HB; have HO_7 := n0_; have HO_784001 := n1_; have HO_795001 := n2_; have HO798 := n3_; have BK772 := n4_; have BK783 := n5_; have BK794 := n6_; have HB := n7_; clear n0_ n1_ n2_ n3_ n4_ n5_ n6_ n7_; (try clear hb); (try clear hb2); (try clear hk); (try clear hi)))
                  go_meet
                  case rel => exact ⟨_, ((t793 != t782)), (by first | rfl | (simp; done) | (simp [*]; done)), H', ⟨by have := HJ10.out; first | omega | exact Nat.le_refl _⟩, ⟨by (with_reducible repeat (first | apply Kd.R_alloc | apply Kd.R_drewN | apply Kd.R_drew)); exact Kd.R_mono HO_784001.out (fun _ hk => hk.2.1)⟩, ⟨by (with_reducible repeat (first | apply Kd.R_alloc | apply Kd.R_drewN | apply Kd.R_drew)); exact Kd.R_mono HO_795001.out (fun _ hk => hk.2.1)⟩, ⟨by (with_reducible repeat (first | refine blk_drewN ?_ _ | refine blk_drew ?_ | refine blk_alloc ?_ _)); exact BK772.out⟩, ⟨by (with_reducible repeat (first | refine blk_drewN ?_ _ | refine blk_drew ?_ | refine blk_alloc ?_ _)); exact BK783.out⟩, ⟨by (with_reducible repeat (first | refine blk_drewN ?_ _ | refine blk_drew ?_ | refine blk_alloc ?_ _)); exact BK794.out⟩, ⟨by repeat (first | (with_reducible first | exact HB.out | apply below_alloc | apply pw_below_drewN | apply below_drew1 | refine below_set ?_ GE772.out | refine below_set ?_ GE783.out | refine below_set ?_ GE794.out) | exact HB.out)⟩⟩
                · replace c57 := Bool.eq_false_iff.mpr c57
                  subst c57
                  have H1 : (laws_FnExactColumnSupport.j1 kj10 l1 t782 true a0_0 a0_1 t778 t779 t789 t790) = some r := by rw [if_neg (show ¬ (false = true) by decide)] at H; exact H
                  clear H
                  have H := H1
                  clear H1
                  have H' := Aside0.mk H
                  clear H
                  have hnb64 := NB794_772.out
                  have hnc64 := NB772_794.out
                  have hnb65 := NB794_783.out
                  have hnc65 := NB783_794.out
                  have hcz66_0 : w54.cell? ⟨gb794, 0, none⟩ = some (.int .i64 t789) := (blk_cell BK794.out 0).trans rfl
                  have hcz66_1 : w54.cell? ⟨gb794, 1, none⟩ = some (.slice Ao31 t790.length co31) := (blk_cell BK794.out 1).trans rfl
                  have hfz66_0 := blk_frozen BK794.out 0
                  have hfz66_1 := blk_frozen BK794.out 1
                  have hnb67 := NB783_772.out
                  have hnc67 := NB772_783.out
                  have hcz68_0 : w54.cell? ⟨gb783, 0, none⟩ = some (.int .i64 t778) := (blk_cell BK783.out 0).trans rfl
                  have hcz68_1 : w54.cell? ⟨gb783, 1, none⟩ = some (.slice Ao21 t779.length co21) := (blk_cell BK783.out 1).trans rfl
                  have hfz68_0 := blk_frozen BK783.out 0
                  have hfz68_1 := blk_frozen BK783.out 1
                  go_wp2_with (first | (go_at_call 21; (with_reducible refine (laws_eqMatrix.calls kj10 t789 _ _ t790 t778 _ _ t779 false _ ?side1 ?side2 ?side3 ?side4 A56.out).mono ?_); (case side1 => repeat (first | exact (Kd.R_reads' HO_795001.out).2.2 | (with_reducible refine Kd.C_alloc ?_ _) | (with_reducible refine Kd.C_drewN ?_ _) | (with_reducible refine Kd.C_drew ?_))); (case side2 => exact (Kd.R_reads' HO_795001.out).2.1); (case side3 => repeat (first | exact (Kd.R_reads' HO_784001.out).2.2 | (with_reducible refine Kd.C_alloc ?_ _) | (with_reducible refine Kd.C_drewN ?_ _) | (with_reducible refine Kd.C_drew ?_))); (case side4 => exact (Kd.R_reads' HO_784001.out).2.1); rintro e w69 ⟨rfl, hb⟩; have n0_ := Aside0.mk (Kd.R_below (by (with_reducible repeat (first | apply Kd.R_alloc | apply Kd.R_drewN | apply Kd.R_drew)); exact HO_7.out) hb); have n1_ := Aside0.mk (Kd.R_below (by (with_reducible repeat (first | apply Kd.R_alloc | apply Kd.R_drewN | apply Kd.R_drew)); exact HO_784001.out) hb); have n2_ := Aside0.mk (Kd.R_below (by (with_reducible repeat (first | apply Kd.R_alloc | apply Kd.R_drewN | apply Kd.R_drew)); exact HO_795001.out) hb); have n3_ := Aside0.mk (Kd.R_below (by (with_reducible repeat (first | apply Kd.R_alloc | apply Kd.R_drewN | apply Kd.R_drew)); exact HO798.out) hb); have n4_ := Aside0.mk (blk_below (g := gb772) (o := .cells #[.int .i64 a0_0, .int .i64 a0_1] 23 (0, 0)) (by (with_reducible repeat (first | refine blk_drewN ?_ _ | refine blk_drew ?_ | refine blk_alloc ?_ _)); exact BK772.out) hb); have n5_ := Aside0.mk (blk_below (g := gb783) (o := .cells #[.int .i64 t778, .slice Ao21 t779.length co21] 26 (0, 0)) (by (with_reducible repeat (first | refine blk_drewN ?_ _ | refine blk_drew ?_ | refine blk_alloc ?_ _)); exact BK783.out) hb); have n6_ := Aside0.mk (blk_below (g := gb794) (o := .cells #[.int .i64 t789, .slice Ao31 t790.length co31] 26 (0, 0)) (by (with_reducible repeat (first | refine blk_drewN ?_ _ | refine blk_drew ?_ | refine blk_alloc ?_ _)); exact BK794.out) hb); have n7_ := Aside0.mk (below_step (by repeat (first | (with_reducible first | exact HB.out | apply below_alloc | apply pw_below_drewN | apply below_drew1 | refine below_set ?_ GE772.out | refine below_set ?_ GE783.out | refine below_set ?_ GE794.out) | exact HB.out)) hb); clear HO_7; clear HO_784001; clear HO_795001; clear HO798; clear BK772; clear BK783; clear BK794; clear HB; have HO_7 := n0_; have HO_784001 := n1_; have HO_795001 := n2_; have HO798 := n3_; have BK772 := n4_; have BK783 := n5_; have BK794 := n6_; have HB := n7_; clear n0_ n1_ n2_ n3_ n4_ n5_ n6_ n7_; (try clear hb); (try clear hb2); (try clear hk); (try clear hi)))
                  go_meet
                  case rel => exact ⟨_, (true), (by first | rfl | (simp; done) | (simp [*]; done)), H', ⟨by have := HJ10.out; first | omega | exact Nat.le_refl _⟩, ⟨by (with_reducible repeat (first | apply Kd.R_alloc | apply Kd.R_drewN | apply Kd.R_drew)); exact Kd.R_mono HO_784001.out (fun _ hk => hk.2.1)⟩, ⟨by (with_reducible repeat (first | apply Kd.R_alloc | apply Kd.R_drewN | apply Kd.R_drew)); exact Kd.R_mono HO_795001.out (fun _ hk => hk.2.1)⟩, ⟨by (with_reducible repeat (first | refine blk_drewN ?_ _ | refine blk_drew ?_ | refine blk_alloc ?_ _)); exact BK772.out⟩, ⟨by (with_reducible repeat (first | refine blk_drewN ?_ _ | refine blk_drew ?_ | refine blk_alloc ?_ _)); exact BK783.out⟩, ⟨by (with_reducible repeat (first | refine blk_drewN ?_ _ | refine blk_drew ?_ | refine blk_alloc ?_ _)); exact BK794.out⟩, ⟨by repeat (first | (with_reducible first | exact HB.out | apply below_alloc | apply pw_below_drewN | apply below_drew1 | refine below_set ?_ GE772.out | refine below_set ?_ GE783.out | refine below_set ?_ GE794.out) | exact HB.out)⟩⟩
            case rest =>
              clear HC51
              try clear c1
              try clear c2
              try clear p2
              try clear c3
              try clear c3b0
              try clear c3b1
              try clear c4
              try clear c5
              try clear c6
              try clear c11
              try clear c18
              try clear c19
              try clear c21
              try clear c22
              try clear c23
              try clear c28
              try clear c29
              try clear c33
              try clear c34
              try clear c35
              try clear c37
              try clear c40
              try clear c41
              try clear c43
              try clear c44
              try clear c45
              try clear c46
              try clear c49
              try clear c55
              try clear c55b0
              try clear c57
              try clear c58
              try clear c59
              try clear c61
              try clear c64
              try clear c65
              try clear c67
              try clear hcz13_0
              try clear hcz13_1
              try clear hcz20_0
              try clear hcz20_1
              try clear hcz23_0
              try clear hcz23_1
              try clear hcz30_0
              try clear hcz30_1
              try clear hcz36_0
              try clear hcz36_1
              try clear hcz38_0
              try clear hcz38_1
              try clear hcz42_0
              try clear hcz42_1
              try clear hcz44_0
              try clear hcz44_1
              try clear hcz60_0
              try clear hcz60_1
              try clear hcz62_0
              try clear hcz62_1
              try clear hcz66_0
              try clear hcz66_1
              try clear hcz68_0
              try clear hcz68_1
              try clear hfz13_0
              try clear hfz13_1
              try clear hfz20_0
              try clear hfz20_1
              try clear hfz23_0
              try clear hfz23_1
              try clear hfz30_0
              try clear hfz30_1
              try clear hfz36_0
              try clear hfz36_1
              try clear hfz38_0
              try clear hfz38_1
              try clear hfz42_0
              try clear hfz42_1
              try clear hfz44_0
              try clear hfz44_1
              try clear hfz60_0
              try clear hfz60_1
              try clear hfz62_0
              try clear hfz62_1
              try clear hfz66_0
              try clear hfz66_1
              try clear hfz68_0
              try clear hfz68_1
              try clear p2
              obtain ⟨kq, x64_50, rfl, HA, HJ50, HO_784001, HO_795001, BK772, BK783, BK794, HB⟩ := hcut
              cases kq with
              | zero => exact absurd HA.out (by simp [laws_FnExactColumnSupport.j1])
              | succ kj50 =>
                have H := HA.out
                clear HA
                simp only [laws_FnExactColumnSupport.j1] at H
                by_cases c70 : x64_50 = true
                · subst c70
                  have H1 : (some false) = some r := by rw [if_pos rfl] at H; exact H
                  clear H
                  have H := H1
                  clear H1
                  obtain rfl := Option.some.inj H
                  go_wp2
                  go_ret
                  exact ⟨by first | rfl | (simp [errW_none, errW_some] <;> rfl) | (simp [*, errW_none, errW_some] <;> rfl), by repeat (first | (with_reducible first | exact HB.out | apply below_alloc | apply pw_below_drewN | apply below_drew1 | refine below_set ?_ GE772.out | refine below_set ?_ GE783.out | refine below_set ?_ GE794.out) | exact HB.out)⟩
                · replace c70 := Bool.eq_false_iff.mpr c70
                  subst c70
                  have H1 : ((laws_markMatrix.f kj50 t789 t790 1).bind fun bt803 => ((laws_heldMatrix.f kj50 t789 bt803.2 1).bind fun t805 => (if t805 < 0 then (some false) else (if t805 = bt803.1 then ((laws_toField.f a0_0 a0_1).bind fun bt806 => ((laws_toInt64S.f kj50 l1).bind fun t808 => ((impl_ColumnSupport.f kj50 bt806.1 bt806.2 t808).bind fun bt811 => ((laws_eqMatrix.f kj50 bt811.1 bt811.2.1 t778 t779).bind fun t817 => (if t817 = true then (laws_FnExactColumnSupport.j2 kj50 bt803.1 (bt811.2.2 != t782) t789 bt803.2) else (laws_FnExactColumnSupport.j2 kj50 bt803.1 true t789 bt803.2)))))) else (some false))))) = some r := by rw [if_neg (show ¬ (false = true) by decide)] at H; exact H
                  clear H
                  have H := H1
                  clear H1
                  replace H := Option.bind_eq_some_iff.mp H
                  obtain ⟨⟨t803, t804⟩, A710, H⟩ := H
                  replace H : ((laws_heldMatrix.f kj50 t789 t804 1).bind fun t805 => (if t805 < 0 then (some false) else (if t805 = t803 then ((laws_toField.f a0_0 a0_1).bind fun bt806 => ((laws_toInt64S.f kj50 l1).bind fun t808 => ((impl_ColumnSupport.f kj50 bt806.1 bt806.2 t808).bind fun bt811 => ((laws_eqMatrix.f kj50 bt811.1 bt811.2.1 t778 t779).bind fun t817 => (if t817 = true then (laws_FnExactColumnSupport.j2 kj50 t803 (bt811.2.2 != t782) t789 t804) else (laws_FnExactColumnSupport.j2 kj50 t803 true t789 t804)))))) else (some false)))) = some r := H
                  have A71 := Aside0.mk A710
                  clear A710
                  replace H := Option.bind_eq_some_iff.mp H
                  obtain ⟨t805, A720, H⟩ := H
                  replace H : (if t805 < 0 then (some false) else (if t805 = t803 then ((laws_toField.f a0_0 a0_1).bind fun bt806 => ((laws_toInt64S.f kj50 l1).bind fun t808 => ((impl_ColumnSupport.f kj50 bt806.1 bt806.2 t808).bind fun bt811 => ((laws_eqMatrix.f kj50 bt811.1 bt811.2.1 t778 t779).bind fun t817 => (if t817 = true then (laws_FnExactColumnSupport.j2 kj50 t803 (bt811.2.2 != t782) t789 t804) else (laws_FnExactColumnSupport.j2 kj50 t803 true t789 t804)))))) else (some false))) = some r := H
                  have A72 := Aside0.mk A720
                  clear A720
                  by_cases c73 : t805 < 0
                  · rw [if_pos c73] at H
                    have c73b0 : decide (t805 < 0) = true := decide_eq_true c73
                    clear c73
                    obtain rfl := Option.some.inj H
                    have hnb74 := NB794_772.out
                    have hnc74 := NB772_794.out
                    have hnb75 := NB794_783.out
                    have hnc75 := NB783_794.out
                    have hcz76_0 : wc.cell? ⟨gb794, 0, none⟩ = some (.int .i64 t789) := (blk_cell BK794.out 0).trans rfl
                    have hcz76_1 : wc.cell? ⟨gb794, 1, none⟩ = some (.slice Ao31 t790.length co31) := (blk_cell BK794.out 1).trans rfl
                    have hfz76_0 := blk_frozen BK794.out 0
                    have hfz76_1 := blk_frozen BK794.out 1
                    go_wp2_with (first | ((with_reducible refine gate_callee (f := 24) rfl ?_); refine goesL_ (some 67) rfl rfl Try.func24 (by kernel_rfl) rfl #[.agg #[.int .i64 t789, .slice Ao31 t790.length co31], .int .i64 1] rfl (by (try simp only [List.map_toArray, List.map_cons, List.map_nil]); first | done | rfl | (simp only [List.length_drop, List.length_take]; rfl)) ?_; (with_reducible refine (laws_markMatrix.calls kj50 t789 (fun k_ => some k_ = (.slice Ao31 t790.length co31 : Value).ownBlock) (.slice Ao31 t790.length co31) t790 1 t803 t804 w _ ?side1 ?side2 A71.out).mono ?_); (case side1 => repeat (first | (with_reducible first | exact HB.out | apply below_alloc | apply pw_below_drewN | apply below_drew1 | refine below_set ?_ GE772.out | refine below_set ?_ GE783.out | refine below_set ?_ GE794.out) | exact HB.out)); (case side2 => exact Kd.R_tight rfl HO_795001.out); rintro e w77 ⟨rfl, hy0, hb, hkp⟩; refine ⟨_, rfl, ?_⟩; have n0_ := Aside0.mk (Kd.R_mono (ok' := fun k_ => some k_ ≠ (.slice Ao31 t790.length co31 : Value).ownBlock) (Kd.R_keptB (HO_784001.out) hkp (fun k_ hk_ hs_ => (hk_) hs_)) (fun k_ hk_ => hk_.1)); have n1_ := Aside0.mk (Kd.R_reok rfl hy0 (fun k_ e_ => HO_795001.out.1 k_ e_)); have n2_ := Aside0.mk (blk_kept (by (with_reducible repeat (first | refine blk_drewN ?_ _ | refine blk_drew ?_ | refine blk_alloc ?_ _)); exact BK772.out) hkp (fun hs_ => (fun e_ => (Kd.R_ne HO_795001.out BK772.out (by decide)) e_) hs_)); have n3_ := Aside0.mk (blk_kept (by (with_reducible repeat (first | refine blk_drewN ?_ _ | refine blk_drew ?_ | refine blk_alloc ?_ _)); exact BK783.out) hkp (fun hs_ => (fun e_ => (Kd.R_ne HO_795001.out BK783.out (by decide)) e_) hs_)); have n4_ := Aside0.mk (blk_kept (by (with_reducible repeat (first | refine blk_drewN ?_ _ | refine blk_drew ?_ | refine blk_alloc ?_ _)); exact BK794.out) hkp (fun hs_ => (fun e_ => (Kd.R_ne HO_795001.out BK794.out (by decide)) e_) hs_)); have n5_ := Aside0.mk (hb); clear HO_784001; clear HO_795001; clear BK772; clear BK783; clear BK794; clear HB; have HO_784001 := n0_; have HO_795001 := n1_; have BK772 := n2_; have BK783 := n3_; have BK794 := n4_; have HB := n5_; clear n0_ n1_ n2_ n3_ n4_ n5_; (try clear hb); (try clear hkp); (try clear hy0); have hcz78_0 : w77.cell? ⟨gb794, 0, none⟩ = some (.int .i64 t789) := (blk_cell BK794.out 0).trans rfl; have hcz78_1 : w77.cell? ⟨gb794, 1, none⟩ = some (.slice Ao31 t790.length co31) := (blk_cell BK794.out 1).trans rfl; have hfz78_0 := blk_frozen BK794.out 0; have hfz78_1 := blk_frozen BK794.out 1) | ((with_reducible refine gate_callee (f := 25) rfl ?_); refine goesL_ (some 70) rfl rfl Try.func25 (by kernel_rfl) rfl #[.agg #[.int .i64 t789, .slice Ao31 t804.length co31], .int .i64 1] rfl (by (try simp only [List.map_toArray, List.map_cons, List.map_nil]); first | done | (rw [show t804.length = t790.length from (Kd.R_reads' HO_795001.out).1.symm] <;> rfl) | rfl | (simp only [List.length_drop, List.length_take]; rfl)) ?_; (with_reducible refine (laws_heldMatrix.calls kj50 t789 _ _ t804 1 t805 _ ?side1 ?side2 A72.out).mono ?_); (case side1 => repeat (first | exact (Kd.R_reads' HO_795001.out).2.2 | (with_reducible refine Kd.C_alloc ?_ _) | (with_reducible refine Kd.C_drewN ?_ _) | (with_reducible refine Kd.C_drew ?_))); (case side2 => rw [show t804.length = t790.length from (Kd.R_reads' HO_795001.out).1.symm]; exact (Kd.R_reads' HO_795001.out).2.1); rintro e w79 ⟨rfl, hb⟩; refine ⟨_, rfl, ?_⟩; have n0_ := Aside0.mk (Kd.R_below (by (with_reducible repeat (first | apply Kd.R_alloc | apply Kd.R_drewN | apply Kd.R_drew)); exact HO_784001.out) hb); have n1_ := Aside0.mk (Kd.R_below (by (with_reducible repeat (first | apply Kd.R_alloc | apply Kd.R_drewN | apply Kd.R_drew)); exact HO_795001.out) hb); have n2_ := Aside0.mk (blk_below (g := gb772) (o := .cells #[.int .i64 a0_0, .int .i64 a0_1] 23 (0, 0)) (by (with_reducible repeat (first | refine blk_drewN ?_ _ | refine blk_drew ?_ | refine blk_alloc ?_ _)); exact BK772.out) hb); have n3_ := Aside0.mk (blk_below (g := gb783) (o := .cells #[.int .i64 t778, .slice Ao21 t779.length co21] 26 (0, 0)) (by (with_reducible repeat (first | refine blk_drewN ?_ _ | refine blk_drew ?_ | refine blk_alloc ?_ _)); exact BK783.out) hb); have n4_ := Aside0.mk (blk_below (g := gb794) (o := .cells #[.int .i64 t789, .slice Ao31 t790.length co31] 26 (0, 0)) (by (with_reducible repeat (first | refine blk_drewN ?_ _ | refine blk_drew ?_ | refine blk_alloc ?_ _)); exact BK794.out) hb); have n5_ := Aside0.mk (below_step (by repeat (first | (with_reducible first | exact HB.out | apply below_alloc | apply pw_below_drewN | apply below_drew1 | refine below_set ?_ GE772.out | refine below_set ?_ GE783.out | refine below_set ?_ GE794.out) | exact HB.out)) hb); clear HO_784001; clear HO_795001; clear BK772; clear BK783; clear BK794; clear HB; have HO_784001 := n0_; have HO_795001 := n1_; have BK772 := n2_; have BK783 := n3_; have BK794 := n4_; have HB := n5_; clear n0_ n1_ n2_ n3_ n4_ n5_; (try clear hb); (try clear hb2); (try clear hk); (try clear hi)))
                    go_ret
                    exact ⟨by first | rfl | (simp [errW_none, errW_some] <;> rfl) | (simp [*, errW_none, errW_some] <;> rfl), by repeat (first | (with_reducible first | exact HB.out | apply below_alloc | apply pw_below_drewN | apply below_drew1 | refine below_set ?_ GE772.out | refine below_set ?_ GE783.out | refine below_set ?_ GE794.out) | exact HB.out)⟩
                  · rw [if_neg c73] at H
                    have c73b0 : decide (t805 < 0) = false := decide_eq_false c73
                    clear c73
                    by_cases c80 : t805 = t803
                    · rw [if_pos c80] at H
                      have c80b0 : (t805 == t803) = true := beq_iff_eq.mpr c80
                      have c80b1 : (t805 != t803) = false := bne_eq_false_iff_eq.mpr c80
                      clear c80
                      replace H := Option.bind_eq_some_iff.mp H
                      obtain ⟨⟨t806, t807⟩, A810, H⟩ := H
                      replace H : ((laws_toInt64S.f kj50 l1).bind fun t808 => ((impl_ColumnSupport.f kj50 t806 t807 t808).bind fun bt811 => ((laws_eqMatrix.f kj50 bt811.1 bt811.2.1 t778 t779).bind fun t817 => (if t817 = true then (laws_FnExactColumnSupport.j2 kj50 t803 (bt811.2.2 != t782) t789 t804) else (laws_FnExactColumnSupport.j2 kj50 t803 true t789 t804))))) = some r := H
                      have A81 := Aside0.mk A810
                      clear A810
                      replace H := Option.bind_eq_some_iff.mp H
                      obtain ⟨t808, A820, H⟩ := H
                      replace H : ((impl_ColumnSupport.f kj50 t806 t807 t808).bind fun bt811 => ((laws_eqMatrix.f kj50 bt811.1 bt811.2.1 t778 t779).bind fun t817 => (if t817 = true then (laws_FnExactColumnSupport.j2 kj50 t803 (bt811.2.2 != t782) t789 t804) else (laws_FnExactColumnSupport.j2 kj50 t803 true t789 t804)))) = some r := H
                      have A82 := Aside0.mk A820
                      clear A820
                      replace H := Option.bind_eq_some_iff.mp H
                      obtain ⟨⟨t811, t812, t815⟩, A830, H⟩ := H
                      replace H : ((laws_eqMatrix.f kj50 t811 t812 t778 t779).bind fun t817 => (if t817 = true then (laws_FnExactColumnSupport.j2 kj50 t803 (t815 != t782) t789 t804) else (laws_FnExactColumnSupport.j2 kj50 t803 true t789 t804))) = some r := H
                      have A83 := Aside0.mk A830
                      clear A830
                      have HC84 := Aside0.mk H
                      clear H
                      have hnb85 := NB794_772.out
                      have hnc85 := NB772_794.out
                      have hnb86 := NB794_783.out
                      have hnc86 := NB783_794.out
                      have hcz87_0 : wc.cell? ⟨gb794, 0, none⟩ = some (.int .i64 t789) := (blk_cell BK794.out 0).trans rfl
                      have hcz87_1 : wc.cell? ⟨gb794, 1, none⟩ = some (.slice Ao31 t790.length co31) := (blk_cell BK794.out 1).trans rfl
                      have hfz87_0 := blk_frozen BK794.out 0
                      have hfz87_1 := blk_frozen BK794.out 1
                      go_upto_region 23 with (first | ((with_reducible refine gate_callee (f := 24) rfl ?_); refine goesL_ (some 67) rfl rfl Try.func24 (by kernel_rfl) rfl #[.agg #[.int .i64 t789, .slice Ao31 t790.length co31], .int .i64 1] rfl (by (try simp only [List.map_toArray, List.map_cons, List.map_nil]); first | done | rfl | (simp only [List.length_drop, List.length_take]; rfl)) ?_; (with_reducible refine (laws_markMatrix.calls kj50 t789 (fun k_ => some k_ = (.slice Ao31 t790.length co31 : Value).ownBlock) (.slice Ao31 t790.length co31) t790 1 t803 t804 w _ ?side1 ?side2 A71.out).mono ?_); (case side1 => repeat (first | (with_reducible first | exact HB.out | apply below_alloc | apply pw_below_drewN | apply below_drew1 | refine below_set ?_ GE772.out | refine below_set ?_ GE783.out | refine below_set ?_ GE794.out) | exact HB.out)); (case side2 => exact Kd.R_tight rfl HO_795001.out); rintro e w88 ⟨rfl, hy0, hb, hkp⟩; refine ⟨_, rfl, ?_⟩; have n0_ := Aside0.mk (Kd.R_mono (ok' := fun k_ => some k_ ≠ (.slice Ao31 t790.length co31 : Value).ownBlock) (Kd.R_keptB (HO_784001.out) hkp (fun k_ hk_ hs_ => (hk_) hs_)) (fun k_ hk_ => hk_.1)); have n1_ := Aside0.mk (Kd.R_reok rfl hy0 (fun k_ e_ => HO_795001.out.1 k_ e_)); have n2_ := Aside0.mk (blk_kept (by (with_reducible repeat (first | refine blk_drewN ?_ _ | refine blk_drew ?_ | refine blk_alloc ?_ _)); exact BK772.out) hkp (fun hs_ => (fun e_ => (Kd.R_ne HO_795001.out BK772.out (by decide)) e_) hs_)); have n3_ := Aside0.mk (blk_kept (by (with_reducible repeat (first | refine blk_drewN ?_ _ | refine blk_drew ?_ | refine blk_alloc ?_ _)); exact BK783.out) hkp (fun hs_ => (fun e_ => (Kd.R_ne HO_795001.out BK783.out (by decide)) e_) hs_)); have n4_ := Aside0.mk (blk_kept (by (with_reducible repeat (first | refine blk_drewN ?_ _ | refine blk_drew ?_ | refine blk_alloc ?_ _)); exact BK794.out) hkp (fun hs_ => (fun e_ => (Kd.R_ne HO_795001.out BK794.out (by decide)) e_) hs_)); have n5_ := Aside0.mk (hb); clear HO_784001; clear HO_795001; clear BK772; clear BK783; clear BK794; clear HB; have HO_784001 := n0_; have HO_795001 := n1_; have BK772 := n2_; have BK783 := n3_; have BK794 := n4_; have HB := n5_; clear n0_ n1_ n2_ n3_ n4_ n5_; (try clear hb); (try clear hkp); (try clear hy0); have hcz89_0 : w88.cell? ⟨gb794, 0, none⟩ = some (.int .i64 t789) := (blk_cell BK794.out 0).trans rfl; have hcz89_1 : w88.cell? ⟨gb794, 1, none⟩ = some (.slice Ao31 t790.length co31) := (blk_cell BK794.out 1).trans rfl; have hfz89_0 := blk_frozen BK794.out 0; have hfz89_1 := blk_frozen BK794.out 1) | ((with_reducible refine gate_callee (f := 25) rfl ?_); refine goesL_ (some 70) rfl rfl Try.func25 (by kernel_rfl) rfl #[.agg #[.int .i64 t789, .slice Ao31 t804.length co31], .int .i64 1] rfl (by (try simp only [List.map_toArray, List.map_cons, List.map_nil]); first | done | (rw [show t804.length = t790.length from (Kd.R_reads' HO_795001.out).1.symm] <;> rfl) | rfl | (simp only [List.length_drop, List.length_take]; rfl)) ?_; (with_reducible refine (laws_heldMatrix.calls kj50 t789 _ _ t804 1 t805 _ ?side1 ?side2 A72.out).mono ?_); (case side1 => repeat (first | exact (Kd.R_reads' HO_795001.out).2.2 | (with_reducible refine Kd.C_alloc ?_ _) | (with_reducible refine Kd.C_drewN ?_ _) | (with_reducible refine Kd.C_drew ?_))); (case side2 => rw [show t804.length = t790.length from (Kd.R_reads' HO_795001.out).1.symm]; exact (Kd.R_reads' HO_795001.out).2.1); rintro e w90 ⟨rfl, hb⟩; refine ⟨_, rfl, ?_⟩; have n0_ := Aside0.mk (Kd.R_below (by (with_reducible repeat (first | apply Kd.R_alloc | apply Kd.R_drewN | apply Kd.R_drew)); exact HO_784001.out) hb); have n1_ := Aside0.mk (Kd.R_below (by (with_reducible repeat (first | apply Kd.R_alloc | apply Kd.R_drewN | apply Kd.R_drew)); exact HO_795001.out) hb); have n2_ := Aside0.mk (blk_below (g := gb772) (o := .cells #[.int .i64 a0_0, .int .i64 a0_1] 23 (0, 0)) (by (with_reducible repeat (first | refine blk_drewN ?_ _ | refine blk_drew ?_ | refine blk_alloc ?_ _)); exact BK772.out) hb); have n3_ := Aside0.mk (blk_below (g := gb783) (o := .cells #[.int .i64 t778, .slice Ao21 t779.length co21] 26 (0, 0)) (by (with_reducible repeat (first | refine blk_drewN ?_ _ | refine blk_drew ?_ | refine blk_alloc ?_ _)); exact BK783.out) hb); have n4_ := Aside0.mk (blk_below (g := gb794) (o := .cells #[.int .i64 t789, .slice Ao31 t790.length co31] 26 (0, 0)) (by (with_reducible repeat (first | refine blk_drewN ?_ _ | refine blk_drew ?_ | refine blk_alloc ?_ _)); exact BK794.out) hb); have n5_ := Aside0.mk (below_step (by repeat (first | (with_reducible first | exact HB.out | apply below_alloc | apply pw_below_drewN | apply below_drew1 | refine below_set ?_ GE772.out | refine below_set ?_ GE783.out | refine below_set ?_ GE794.out) | exact HB.out)) hb); clear HO_784001; clear HO_795001; clear BK772; clear BK783; clear BK794; clear HB; have HO_784001 := n0_; have HO_795001 := n1_; have BK772 := n2_; have BK783 := n3_; have BK794 := n4_; have HB := n5_; clear n0_ n1_ n2_ n3_ n4_ n5_; (try clear hb); (try clear hb2); (try clear hk); (try clear hi); have hnb91 := NB772_783.out; have hnc91 := NB783_772.out; have hcz92_0 : w90.cell? ⟨gb772, 0, none⟩ = some (.int .i64 a0_0) := (blk_cell BK772.out 0).trans rfl; have hcz92_1 : w90.cell? ⟨gb772, 1, none⟩ = some (.int .i64 a0_1) := (blk_cell BK772.out 1).trans rfl; have hfz92_0 := blk_frozen BK772.out 0; have hfz92_1 := blk_frozen BK772.out 1) | ((with_reducible refine gate_callee (f := 18) rfl ?_); refine goesL_ (some 78) rfl rfl Try.func18 (by kernel_rfl) rfl #[.agg #[.int .i64 a0_0, .int .i64 a0_1]] rfl (by (try simp only [List.map_toArray, List.map_cons, List.map_nil]); first | done | rfl | (simp only [List.length_drop, List.length_take]; rfl)) ?_; (with_reducible refine (laws_toField.calls a0_0 a0_1 t806 t807 _ A81.out).mono ?_); rintro e w93 ⟨rfl, hb⟩; refine ⟨_, rfl, ?_⟩; have n0_ := Aside0.mk (Kd.R_below (by (with_reducible repeat (first | apply Kd.R_alloc | apply Kd.R_drewN | apply Kd.R_drew)); exact HO_784001.out) hb); have n1_ := Aside0.mk (Kd.R_below (by (with_reducible repeat (first | apply Kd.R_alloc | apply Kd.R_drewN | apply Kd.R_drew)); exact HO_795001.out) hb); have n2_ := Aside0.mk (blk_below (g := gb772) (o := .cells #[.int .i64 a0_0, .int .i64 a0_1] 23 (0, 0)) (by (with_reducible repeat (first | refine blk_drewN ?_ _ | refine blk_drew ?_ | refine blk_alloc ?_ _)); exact BK772.out) hb); have n3_ := Aside0.mk (blk_below (g := gb783) (o := .cells #[.int .i64 t778, .slice Ao21 t779.length co21] 26 (0, 0)) (by (with_reducible repeat (first | refine blk_drewN ?_ _ | refine blk_drew ?_ | refine blk_alloc ?_ _)); exact BK783.out) hb); have n4_ := Aside0.mk (blk_below (g := gb794) (o := .cells #[.int .i64 t789, .slice Ao31 t790.length co31] 26 (0, 0)) (by (with_reducible repeat (first | refine blk_drewN ?_ _ | refine blk_drew ?_ | refine blk_alloc ?_ _)); exact BK794.out) hb); have n5_ := Aside0.mk (below_step (by repeat (first | (with_reducible first | exact HB.out | apply below_alloc | apply pw_below_drewN | apply below_drew1 | refine below_set ?_ GE772.out | refine below_set ?_ GE783.out | refine below_set ?_ GE794.out) | exact HB.out)) hb); clear HO_784001; clear HO_795001; clear BK772; clear BK783; clear BK794; clear HB; have HO_784001 := n0_; have HO_795001 := n1_; have BK772 := n2_; have BK783 := n3_; have BK794 := n4_; have HB := n5_; clear n0_ n1_ n2_ n3_ n4_ n5_; (try clear hb); (try clear hb2); (try clear hk); (try clear hi)) | ((with_reducible refine gate_callee (f := 19) rfl ?_); refine goesL_ (some 80) rfl rfl Try.func19 (by kernel_rfl) rfl #[.slice A1 l1.length c1] rfl (by (try simp only [List.map_toArray, List.map_cons, List.map_nil]); first | done | rfl | (simp only [List.length_drop, List.length_take]; rfl)) ?_; (with_reducible refine (laws_toInt64S.calls kj50 _ _ l1 t808 _ ?side1 ?side2 A82.out).mono ?_); (case side1 => repeat (first | exact (Kd.C_below HR1.out HB.out) | (with_reducible refine Kd.C_alloc ?_ _) | (with_reducible refine Kd.C_drewN ?_ _) | (with_reducible refine Kd.C_drew ?_))); (case side2 => exact HC1.out); rintro e w94 ⟨v809, rfl, ho0, hb⟩; refine ⟨_, rfl, ?_⟩; have n0_ := Aside0.mk (Kd.R_elder' (by (with_reducible repeat (first | apply Kd.R_alloc | apply Kd.R_drewN | apply Kd.R_drew)); exact HO_784001.out) (Kd.R_base ho0) hb); have n1_ := Aside0.mk (Kd.R_elder' (by (with_reducible repeat (first | apply Kd.R_alloc | apply Kd.R_drewN | apply Kd.R_drew)); exact HO_795001.out) (Kd.R_base ho0) hb); have n2_ := Aside0.mk (Kd.R_lower (Kd.R_new' (Kd.R_new' ho0 (Kd.R_lt (by (with_reducible repeat (first | apply Kd.R_alloc | apply Kd.R_drewN | apply Kd.R_drew)); exact HO_784001.out))) (Kd.R_lt (by (with_reducible repeat (first | apply Kd.R_alloc | apply Kd.R_drewN | apply Kd.R_drew)); exact HO_795001.out))) (below_size (by repeat (first | (with_reducible first | exact HB.out | apply below_alloc | apply pw_below_drewN | apply below_drew1 | refine below_set ?_ GE772.out | refine below_set ?_ GE783.out | refine below_set ?_ GE794.out) | exact HB.out)))); have n3_ := Aside0.mk (blk_below (g := gb772) (o := .cells #[.int .i64 a0_0, .int .i64 a0_1] 23 (0, 0)) (by (with_reducible repeat (first | refine blk_drewN ?_ _ | refine blk_drew ?_ | refine blk_alloc ?_ _)); exact BK772.out) hb); have n4_ := Aside0.mk (blk_below (g := gb783) (o := .cells #[.int .i64 t778, .slice Ao21 t779.length co21] 26 (0, 0)) (by (with_reducible repeat (first | refine blk_drewN ?_ _ | refine blk_drew ?_ | refine blk_alloc ?_ _)); exact BK783.out) hb); have n5_ := Aside0.mk (blk_below (g := gb794) (o := .cells #[.int .i64 t789, .slice Ao31 t790.length co31] 26 (0, 0)) (by (with_reducible repeat (first | refine blk_drewN ?_ _ | refine blk_drew ?_ | refine blk_alloc ?_ _)); exact BK794.out) hb); have n6_ := Aside0.mk (below_step (by repeat (first | (with_reducible first | exact HB.out | apply below_alloc | apply pw_below_drewN | apply below_drew1 | refine below_set ?_ GE772.out | refine below_set ?_ GE783.out | refine below_set ?_ GE794.out) | exact HB.out)) hb); clear HO_784001; clear HO_795001; clear BK772; clear BK783; clear BK794; clear HB; have HO_784001 := n0_; have HO_795001 := n1_; have HO810 := n2_; have BK772 := n3_; have BK783 := n4_; have BK794 := n5_; have HB := n6_; clear n0_ n1_ n2_ n3_ n4_ n5_ n6_; (try clear hb); (try clear hb2); (try clear hk); (try clear hi); (try clear ho0); obtain ⟨Ao95, co95, eo95⟩ := Kd.R_slice HO810.out; subst eo95) | ((with_reducible refine gate_callee (f := 45) rfl ?_); refine goesL_ (some 81) rfl rfl Try.func45 (by kernel_rfl) rfl #[.agg #[.int .i64 t806, .int .i64 t807], .slice Ao95 t808.length co95] rfl (by (try simp only [List.map_toArray, List.map_cons, List.map_nil]); first | done | rfl | (simp only [List.length_drop, List.length_take]; rfl)) ?_; (with_reducible refine (impl_ColumnSupport.calls kj50 t806 t807 (fun k_ => some k_ = (.slice Ao95 t808.length co95 : Value).ownBlock) _ _ t808 t811 t812 t815 _ ?side1 A83.out).mono ?_); (case side1 => exact Kd.R_V (Kd.R_tight rfl (Kd.R_types (Kd.R_types (Kd.R_types (HO810.out) BK772.out (by decide)) BK783.out (by decide)) BK794.out (by decide)))); rintro e w96 ⟨v813, rfl, ho0, hb⟩; refine ⟨_, rfl, ?_⟩; have n0_ := Aside0.mk (Kd.R_elder' (by (with_reducible repeat (first | apply Kd.R_alloc | apply Kd.R_drewN | apply Kd.R_drew)); exact HO_784001.out) (Kd.R_base ho0) hb); have n1_ := Aside0.mk (Kd.R_elder' (by (with_reducible repeat (first | apply Kd.R_alloc | apply Kd.R_drewN | apply Kd.R_drew)); exact HO_795001.out) (Kd.R_base ho0) hb); have n2_ := Aside0.mk (Kd.R_elder' (by (with_reducible repeat (first | apply Kd.R_alloc | apply Kd.R_drewN | apply Kd.R_drew)); exact HO810.out) (Kd.R_base ho0) hb); have n3_ := Aside0.mk (Kd.R_lower (Kd.R_new' (Kd.R_new' (Kd.R_new' (Kd.R_mono (ok' := fun k_ => True) ho0 (fun _ hk_ => trivial)) (Kd.R_lt (by (with_reducible repeat (first | apply Kd.R_alloc | apply Kd.R_drewN | apply Kd.R_drew)); exact HO_784001.out))) (Kd.R_lt (by (with_reducible repeat (first | apply Kd.R_alloc | apply Kd.R_drewN | apply Kd.R_drew)); exact HO_795001.out))) (Kd.R_lt (by (with_reducible repeat (first | apply Kd.R_alloc | apply Kd.R_drewN | apply Kd.R_drew)); exact HO810.out))) (below_size (by repeat (first | (with_reducible first | exact HB.out | apply below_alloc | apply pw_below_drewN | apply below_drew1 | refine below_set ?_ GE772.out | refine below_set ?_ GE783.out | refine below_set ?_ GE794.out) | exact HB.out)))); have n4_ := Aside0.mk (blk_below (g := gb772) (o := .cells #[.int .i64 a0_0, .int .i64 a0_1] 23 (0, 0)) (by (with_reducible repeat (first | refine blk_drewN ?_ _ | refine blk_drew ?_ | refine blk_alloc ?_ _)); exact BK772.out) hb); have n5_ := Aside0.mk (blk_below (g := gb783) (o := .cells #[.int .i64 t778, .slice Ao21 t779.length co21] 26 (0, 0)) (by (with_reducible repeat (first | refine blk_drewN ?_ _ | refine blk_drew ?_ | refine blk_alloc ?_ _)); exact BK783.out) hb); have n6_ := Aside0.mk (blk_below (g := gb794) (o := .cells #[.int .i64 t789, .slice Ao31 t790.length co31] 26 (0, 0)) (by (with_reducible repeat (first | refine blk_drewN ?_ _ | refine blk_drew ?_ | refine blk_alloc ?_ _)); exact BK794.out) hb); have n7_ := Aside0.mk (below_step (by repeat (first | (with_reducible first | exact HB.out | apply below_alloc | apply pw_below_drewN | apply below_drew1 | refine below_set ?_ GE772.out | refine below_set ?_ GE783.out | refine below_set ?_ GE794.out) | exact HB.out)) hb); clear HO_784001; clear HO_795001; clear HO810; clear BK772; clear BK783; clear BK794; clear HB; have HO_784001 := n0_; have HO_795001 := n1_; have HO810 := n2_; have HO814 := n3_; have BK772 := n4_; have BK783 := n5_; have BK794 := n6_; have HB := n7_; clear n0_ n1_ n2_ n3_ n4_ n5_ n6_ n7_; (try clear hb); (try clear hb2); (try clear hk); (try clear hi); (try clear ho0)) | ((with_reducible refine gate_dst (N := 13) rfl ?_); refine box_event ?hg (N := 13) ?hd (cs := #[.int .i64 0, .slice none 0 0]) (t := 26) ?hr ?_; (case hd => rfl); (case hg => rfl); (case hr => first | (go_simp; done) | (go_simp; rfl)); intro gb816 hg w97 hbox hb; have n0_ := Aside0.mk (Kd.R_below (by (with_reducible repeat (first | apply Kd.R_alloc | apply Kd.R_drewN | apply Kd.R_drew)); exact HO_784001.out) hb); have n1_ := Aside0.mk (Kd.R_below (by (with_reducible repeat (first | apply Kd.R_alloc | apply Kd.R_drewN | apply Kd.R_drew)); exact HO_795001.out) hb); have n2_ := Aside0.mk (Kd.R_below (by (with_reducible repeat (first | apply Kd.R_alloc | apply Kd.R_drewN | apply Kd.R_drew)); exact HO810.out) hb); have n3_ := Aside0.mk (Kd.R_below (by (with_reducible repeat (first | apply Kd.R_alloc | apply Kd.R_drewN | apply Kd.R_drew)); exact HO814.out) hb); have n4_ := Aside0.mk (blk_below (g := gb772) (o := .cells #[.int .i64 a0_0, .int .i64 a0_1] 23 (0, 0)) (by (with_reducible repeat (first | refine blk_drewN ?_ _ | refine blk_drew ?_ | refine blk_alloc ?_ _)); exact BK772.out) hb); have n5_ := Aside0.mk (blk_below (g := gb783) (o := .cells #[.int .i64 t778, .slice Ao21 t779.length co21] 26 (0, 0)) (by (with_reducible repeat (first | refine blk_drewN ?_ _ | refine blk_drew ?_ | refine blk_alloc ?_ _)); exact BK783.out) hb); have n6_ := Aside0.mk (blk_below (g := gb794) (o := .cells #[.int .i64 t789, .slice Ao31 t790.length co31] 26 (0, 0)) (by (with_reducible repeat (first | refine blk_drewN ?_ _ | refine blk_drew ?_ | refine blk_alloc ?_ _)); exact BK794.out) hb); have n7_ := Aside0.mk (below_step (by repeat (first | (with_reducible first | exact HB.out | apply below_alloc | apply pw_below_drewN | apply below_drew1 | refine below_set ?_ GE772.out | refine below_set ?_ GE783.out | refine below_set ?_ GE794.out) | exact HB.out)) hb); have n8_ := Aside0.mk (hbox); have n9_ := Aside0.mk ((by rw [hg]; exact (below_size (by repeat (first | (with_reducible first | exact HB.out | apply below_alloc | apply pw_below_drewN | apply below_drew1 | refine below_set ?_ GE772.out | refine below_set ?_ GE783.out | refine below_set ?_ GE794.out) | exact HB.out))) : w.heap.size ≤ gb816)); have n10_ := Aside0.mk ((by rw [hg]; exact (below_size (by repeat (first | (with_reducible first | exact HB.out | apply below_alloc | apply pw_below_drewN | apply below_drew1 | refine below_set ?_ GE772.out | refine below_set ?_ GE783.out | refine below_set ?_ GE794.out) | exact HB.out))) : w.heap.size ≤ gb816)); have n11_ := Aside0.mk ((by rw [hg]; exact Nat.ne_of_lt (blk_lt (g := gb772) (o := .cells #[.int .i64 a0_0, .int .i64 a0_1] 23 (0, 0)) (by (with_reducible repeat (first | refine blk_drewN ?_ _ | refine blk_drew ?_ | refine blk_alloc ?_ _)); exact BK772.out)) : gb772 ≠ gb816)); have n12_ := Aside0.mk ((by rw [hg]; exact Nat.ne_of_gt (blk_lt (g := gb772) (o := .cells #[.int .i64 a0_0, .int .i64 a0_1] 23 (0, 0)) (by (with_reducible repeat (first | refine blk_drewN ?_ _ | refine blk_drew ?_ | refine blk_alloc ?_ _)); exact BK772.out)) : gb816 ≠ gb772)); have n13_ := Aside0.mk ((by rw [hg]; exact Nat.ne_of_lt (blk_lt (g := gb783) (o := .cells #[.int .i64 t778, .slice Ao21 t779.length co21] 26 (0, 0)) (by (with_reducible repeat (first | refine blk_drewN ?_ _ | refine blk_drew ?_ | refine blk_alloc ?_ _)); exact BK783.out)) : gb783 ≠ gb816)); have n14_ := Aside0.mk ((by rw [hg]; exact Nat.ne_of_gt (blk_lt (g := gb783) (o := .cells #[.int .i64 t778, .slice Ao21 t779.length co21] 26 (0, 0)) (by (with_reducible repeat (first | refine blk_drewN ?_ _ | refine blk_drew ?_ | refine blk_alloc ?_ _)); exact BK783.out)) : gb816 ≠ gb783)); have n15_ := Aside0.mk ((by rw [hg]; exact Nat.ne_of_lt (blk_lt (g := gb794) (o := .cells #[.int .i64 t789, .slice Ao31 t790.length co31] 26 (0, 0)) (by (with_reducible repeat (first | refine blk_drewN ?_ _ | refine blk_drew ?_ | refine blk_alloc ?_ _)); exact BK794.out)) : gb794 ≠ gb816)); have n16_ := Aside0.mk ((by rw [hg]; exact Nat.ne_of_gt (blk_lt (g := gb794) (o := .cells #[.int .i64 t789, .slice Ao31 t790.length co31] 26 (0, 0)) (by (with_reducible repeat (first | refine blk_drewN ?_ _ | refine blk_drew ?_ | refine blk_alloc ?_ _)); exact BK794.out)) : gb816 ≠ gb794)); clear HO_784001; clear HO_795001; clear HO810; clear HO814; clear BK772; clear BK783; clear BK794; clear HB; have HO_784001 := n0_; have HO_795001 := n1_; have HO810 := n2_; have HO814 := n3_; have BK772 := n4_; have BK783 := n5_; have BK794 := n6_; have HB := n7_; have BK816 := n8_; have GW816 := n9_; have GE816 := n10_; have NB772_816 := n11_; have NB816_772 := n12_; have NB783_816 := n13_; have NB816_783 := n14_; have NB794_816 := n15_; have NB816_794 := n16_; clear n0_ n1_ n2_ n3_ n4_ n5_ n6_ n7_ n8_ n9_ n10_ n11_ n12_ n13_ n14_ n15_ n16_; clear hb hbox hg; have hnb98 := NB816_772.out; have hnc98 := NB772_816.out; have hnb99 := NB816_783.out; have hnc99 := NB783_816.out; have hnb100 := NB816_794.out; have hnc100 := NB794_816.out; have hcz101_0 : w97.cell? ⟨gb816, 0, none⟩ = some (.int .i64 0) := (blk_cell BK816.out 0).trans rfl; have hcz101_1 : w97.cell? ⟨gb816, 1, none⟩ = some (.slice none 0 0) := (blk_cell BK816.out 1).trans rfl; have hfz101_0 := blk_frozen BK816.out 0; have hfz101_1 := blk_frozen BK816.out 1; obtain ⟨Ao102, co102, eo102⟩ := Kd.R_slice HO814.out; subst eo102))
                      (try simp only [Act.put, List.setIfInBounds_toArray, List.set_cons_zero, List.set_cons_succ])
                      go_cut [92] (fun v92 wc => ∃ (kq : Nat) (x92_83 : Bool), v92 = .bool x92_83 ∧ Aside0 (laws_FnExactColumnSupport.j2 kq t803 x92_83 t789 t804 = some r) ∧ Aside0 (kq ≤ kj50) ∧ Aside0 (Kd.R (Kd.int .i64) 2 wc w.heap.size (fun k_ => some k_ ≠ ((.slice Ao31 t790.length co31) : Value).ownBlock ∧ some k_ ≠ ((.slice Ao102 t812.length co102) : Value).ownBlock) (.slice Ao21 t779.length co21) t779) ∧ Aside0 (Kd.R (Kd.int .i64) 2 wc w.heap.size (fun k_ => some k_ ≠ ((.slice Ao21 t779.length co21) : Value).ownBlock ∧ some k_ ≠ ((.slice Ao102 t812.length co102) : Value).ownBlock) (.slice Ao31 t790.length co31) t804) ∧ Aside0 (Kd.R (Kd.int .i64) 2 wc w.heap.size (fun k_ => some k_ ≠ ((.slice Ao21 t779.length co21) : Value).ownBlock ∧ some k_ ≠ ((.slice Ao31 t790.length co31) : Value).ownBlock) (.slice Ao102 t812.length co102) t812) ∧ Aside0 (wc.heap[gb772]? = some (.cells #[.int .i64 a0_0, .int .i64 a0_1] 23 (0, 0))) ∧ Aside0 (wc.heap[gb783]? = some (.cells #[.int .i64 t778, (.slice Ao21 t779.length co21)] 26 (0, 0))) ∧ Aside0 (wc.heap[gb794]? = some (.cells #[.int .i64 t789, (.slice Ao31 t790.length co31)] 26 (0, 0))) ∧ Aside0 (wc.heap[gb816]? = some (.cells #[.int .i64 t811, (.slice Ao102 t812.length co102)] 26 (0, 0))) ∧ Aside0 (Below w.heap.size w wc))
                      case first =>
                        have H := HC84.out
                        clear HC84
                        replace H := Option.bind_eq_some_iff.mp H
                        obtain ⟨t817, A1030, H⟩ := H
                        replace H : (if t817 = true then (laws_FnExactColumnSupport.j2 kj50 t803 (t815 != t782) t789 t804) else (laws_FnExactColumnSupport.j2 kj50 t803 true t789 t804)) = some r := H
                        have A103 := Aside0.mk A1030
                        clear A1030
                        by_cases c104 : t817 = true
                        · subst c104
                          have H1 : (laws_FnExactColumnSupport.j2 kj50 t803 (t815 != t782) t789 t804) = some r := by rw [if_pos rfl] at H; exact H
                          clear H
                          have H := H1
                          clear H1
                          have H' := Aside0.mk H
                          clear H
                          have hnb105 := NB816_772.out
                          have hnc105 := NB772_816.out
                          have hnb106 := NB816_783.out
                          have hnc106 := NB783_816.out
                          have hnb107 := NB816_794.out
                          have hnc107 := NB794_816.out
                          have hcz108_0 : w97.cell? ⟨gb816, 0, none⟩ = some (.int .i64 0) := (blk_cell BK816.out 0).trans rfl
                          have hcz108_1 : w97.cell? ⟨gb816, 1, none⟩ = some (.slice none 0 0) := (blk_cell BK816.out 1).trans rfl
                          have hfz108_0 := blk_frozen BK816.out 0
                          have hfz108_1 := blk_frozen BK816.out 1
                          have hnb109 := NB783_772.out
                          have hnc109 := NB772_783.out
                          have hnb110 := NB783_794.out
                          have hnc110 := NB794_783.out
                          have hcz111_0 : w97.cell? ⟨gb783, 0, none⟩ = some (.int .i64 t778) := (blk_cell BK783.out 0).trans rfl
                          have hcz111_1 : w97.cell? ⟨gb783, 1, none⟩ = some (.slice Ao21 t779.length co21) := (blk_cell BK783.out 1).trans rfl
                          have hfz111_0 := blk_frozen BK783.out 0
                          have hfz111_1 := blk_frozen BK783.out 1
                          go_wp2_with (first | ((with_reducible refine gate_callee (f := 21) rfl ?_); refine goesL_ (some 86) rfl rfl Try.func21 (by kernel_rfl) rfl #[.agg #[.int .i64 t811, .slice Ao102 t812.length co102], .agg #[.int .i64 t778, .slice Ao21 t779.length co21]] rfl (by (try simp only [List.map_toArray, List.map_cons, List.map_nil]); first | done | rfl | (simp only [List.length_drop, List.length_take]; rfl)) ?_; (with_reducible refine (laws_eqMatrix.calls kj50 t811 _ _ t812 t778 _ _ t779 true _ ?side1 ?side2 ?side3 ?side4 A103.out).mono ?_); (case side1 => refine (Kd.R_reads' (e := 2) (base := w.heap.size) (ok := fun k_ => (((True ∧ some k_ ≠ (.slice Ao21 t779.length co21 : Value).ownBlock) ∧ some k_ ≠ (.slice Ao31 t790.length co31 : Value).ownBlock) ∧ some k_ ≠ (.slice Ao95 t808.length co95 : Value).ownBlock)) (n := t812.length) (c := co102) ?_).2.2; exact (by (with_reducible repeat (first | apply Kd.R_alloc | apply Kd.R_drewN | apply Kd.R_drew)); exact (Kd.R_mono (Kd.R_far (p := ⟨gb816, 1, none⟩) (Kd.R_far (p := ⟨gb816, 0, none⟩) (Kd.R_types HO814.out BK816.out (by decide)) (fun _ hk => hk.2) (.int .i64 t811)) (fun _ hk => hk.2) (.slice Ao102 t812.length co102)) (fun _ h_ => h_.1)))); (case side2 => exact (Kd.R_reads' HO814.out).2.1); (case side3 => refine (Kd.R_reads' (e := 2) (base := w.heap.size) (ok := fun k_ => ((some k_ ≠ (.slice Ao31 t790.length co31 : Value).ownBlock ∧ some k_ ≠ (.slice Ao95 t808.length co95 : Value).ownBlock) ∧ some k_ ≠ (.slice Ao102 t812.length co102 : Value).ownBlock)) (n := t779.length) (c := co21) ?_).2.2; exact (by (with_reducible repeat (first | apply Kd.R_alloc | apply Kd.R_drewN | apply Kd.R_drew)); exact (Kd.R_mono (Kd.R_far (p := ⟨gb816, 1, none⟩) (Kd.R_far (p := ⟨gb816, 0, none⟩) (Kd.R_types HO_784001.out BK816.out (by decide)) (fun _ hk => hk.2) (.int .i64 t811)) (fun _ hk => hk.2) (.slice Ao102 t812.length co102)) (fun _ h_ => h_.1)))); (case side4 => exact (Kd.R_reads' HO_784001.out).2.1); rintro e w112 ⟨rfl, hb⟩; refine ⟨_, rfl, ?_⟩; have n0_ := Aside0.mk (Kd.R_below (by (with_reducible repeat (first | apply Kd.R_alloc | apply Kd.R_drewN | apply Kd.R_drew)); exact (Kd.R_mono (Kd.R_far (p := ⟨gb816, 1, none⟩) (Kd.R_far (p := ⟨gb816, 0, none⟩) (Kd.R_types HO_784001.out BK816.out (by decide)) (fun _ hk => hk.2) (.int .i64 t811)) (fun _ hk => hk.2) (.slice Ao102 t812.length co102)) (fun _ h_ => h_.1))) hb); have n1_ := Aside0.mk (Kd.R_below (by (with_reducible repeat (first | apply Kd.R_alloc | apply Kd.R_drewN | apply Kd.R_drew)); exact (Kd.R_mono (Kd.R_far (p := ⟨gb816, 1, none⟩) (Kd.R_far (p := ⟨gb816, 0, none⟩) (Kd.R_types HO_795001.out BK816.out (by decide)) (fun _ hk => hk.2) (.int .i64 t811)) (fun _ hk => hk.2) (.slice Ao102 t812.length co102)) (fun _ h_ => h_.1))) hb); have n2_ := Aside0.mk (Kd.R_below (by (with_reducible repeat (first | apply Kd.R_alloc | apply Kd.R_drewN | apply Kd.R_drew)); exact (Kd.R_mono (Kd.R_far (p := ⟨gb816, 1, none⟩) (Kd.R_far (p := ⟨gb816, 0, none⟩) (Kd.R_types HO810.out BK816.out (by decide)) (fun _ hk => hk.2) (.int .i64 t811)) (fun _ hk => hk.2) (.slice Ao102 t812.length co102)) (fun _ h_ => h_.1))) hb); have n3_ := Aside0.mk (Kd.R_below (by (with_reducible repeat (first | apply Kd.R_alloc | apply Kd.R_drewN | apply Kd.R_drew)); exact (Kd.R_mono (Kd.R_far (p := ⟨gb816, 1, none⟩) (Kd.R_far (p := ⟨gb816, 0, none⟩) (Kd.R_types HO814.out BK816.out (by decide)) (fun _ hk => hk.2) (.int .i64 t811)) (fun _ hk => hk.2) (.slice Ao102 t812.length co102)) (fun _ h_ => h_.1))) hb); have n4_ := Aside0.mk (blk_below (g := gb772) (o := .cells #[.int .i64 a0_0, .int .i64 a0_1] 23 (0, 0)) (by (with_reducible repeat (first | refine blk_drewN ?_ _ | refine blk_drew ?_ | refine blk_alloc ?_ _)); refine blk_far ?_ NB772_816.out _; (with_reducible repeat (first | refine blk_drewN ?_ _ | refine blk_drew ?_ | refine blk_alloc ?_ _)); refine blk_far ?_ NB772_816.out _; (with_reducible repeat (first | refine blk_drewN ?_ _ | refine blk_drew ?_ | refine blk_alloc ?_ _)); exact BK772.out) hb); have n5_ := Aside0.mk (blk_below (g := gb783) (o := .cells #[.int .i64 t778, .slice Ao21 t779.length co21] 26 (0, 0)) (by (with_reducible repeat (first | refine blk_drewN ?_ _ | refine blk_drew ?_ | refine blk_alloc ?_ _)); refine blk_far ?_ NB783_816.out _; (with_reducible repeat (first | refine blk_drewN ?_ _ | refine blk_drew ?_ | refine blk_alloc ?_ _)); refine blk_far ?_ NB783_816.out _; (with_reducible repeat (first | refine blk_drewN ?_ _ | refine blk_drew ?_ | refine blk_alloc ?_ _)); exact BK783.out) hb); have n6_ := Aside0.mk (blk_below (g := gb794) (o := .cells #[.int .i64 t789, .slice Ao31 t790.length co31] 26 (0, 0)) (by (with_reducible repeat (first | refine blk_drewN ?_ _ | refine blk_drew ?_ | refine blk_alloc ?_ _)); refine blk_far ?_ NB794_816.out _; (with_reducible repeat (first | refine blk_drewN ?_ _ | refine blk_drew ?_ | refine blk_alloc ?_ _)); refine blk_far ?_ NB794_816.out _; (with_reducible repeat (first | refine blk_drewN ?_ _ | refine blk_drew ?_ | refine blk_alloc ?_ _)); exact BK794.out) hb); have n7_ := Aside0.mk (blk_below (g := gb816) (o := .cells #[.int .i64 t811, .slice Ao102 t812.length co102] 26 (0, 0)) (by (with_reducible repeat (first | refine blk_drewN ?_ _ | refine blk_drew ?_ | refine blk_alloc ?_ _)); refine blk_put (cs := #[.int .i64 t811, .slice none 0 0]) ?_ 1 _ rfl; (with_reducible repeat (first | refine blk_drewN ?_ _ | refine blk_drew ?_ | refine blk_alloc ?_ _)); refine blk_put (cs := #[.int .i64 0, .slice none 0 0]) ?_ 0 _ rfl; (with_reducible repeat (first | refine blk_drewN ?_ _ | refine blk_drew ?_ | refine blk_alloc ?_ _)); exact BK816.out) hb); have n8_ := Aside0.mk (below_step (by repeat (first | (with_reducible first | exact HB.out | apply below_alloc | apply pw_below_drewN | apply below_drew1 | refine below_set ?_ GE772.out | refine below_set ?_ GE783.out | refine below_set ?_ GE794.out | refine below_set ?_ GE816.out) | exact HB.out)) hb); clear HO_784001; clear HO_795001; clear HO810; clear HO814; clear BK772; clear BK783; clear BK794; clear BK816; clear HB; have HO_784001 := n0_; have HO_795001 := n1_; have HO810 := n2_; have HO814 := n3_; have BK772 := n4_; have BK783 := n5_; have BK794 := n6_; have BK816 := n7_; have HB := n8_; clear n0_ n1_ n2_ n3_ n4_ n5_ n6_ n7_ n8_; (try clear hb); (try clear hb2); (try clear hk); (try clear hi)))
                          go_meet
                          case rel => exact ⟨_, ((t815 != t782)), (by first | rfl | (simp; done) | (simp [*]; done)), H', ⟨by have := HJ10.out; have := HJ50.out; first | omega | exact Nat.le_refl _⟩, ⟨by (with_reducible repeat (first | apply Kd.R_alloc | apply Kd.R_drewN | apply Kd.R_drew)); exact Kd.R_mono HO_784001.out (fun _ hk => ⟨hk.1.1, hk.2⟩)⟩, ⟨by (with_reducible repeat (first | apply Kd.R_alloc | apply Kd.R_drewN | apply Kd.R_drew)); exact Kd.R_mono HO_795001.out (fun _ hk => ⟨hk.1.1, hk.2⟩)⟩, ⟨by (with_reducible repeat (first | apply Kd.R_alloc | apply Kd.R_drewN | apply Kd.R_drew)); exact Kd.R_mono HO814.out (fun _ hk => ⟨hk.1.1.2, hk.1.2⟩)⟩, ⟨by (with_reducible repeat (first | refine blk_drewN ?_ _ | refine blk_drew ?_ | refine blk_alloc ?_ _)); exact BK772.out⟩, ⟨by (with_reducible repeat (first | refine blk_drewN ?_ _ | refine blk_drew ?_ | refine blk_alloc ?_ _)); exact BK783.out⟩, ⟨by (with_reducible repeat (first | refine blk_drewN ?_ _ | refine blk_drew ?_ | refine blk_alloc ?_ _)); exact BK794.out⟩, ⟨by (with_reducible repeat (first | refine blk_drewN ?_ _ | refine blk_drew ?_ | refine blk_alloc ?_ _)); exact BK816.out⟩, ⟨by repeat (first | (with_reducible first | exact HB.out | apply below_alloc | apply pw_below_drewN | apply below_drew1 | refine below_set ?_ GE772.out | refine below_set ?_ GE783.out | refine below_set ?_ GE794.out | refine below_set ?_ GE816.out) | exact HB.out)⟩⟩
                        · replace c104 := Bool.eq_false_iff.mpr c104
                          subst c104
                          have H1 : (laws_FnExactColumnSupport.j2 kj50 t803 true t789 t804) = some r := by rw [if_neg (show ¬ (false = true) by decide)] at H; exact H
                          clear H
                          have H := H1
                          clear H1
                          have H' := Aside0.mk H
                          clear H
                          have hnb113 := NB816_772.out
                          have hnc113 := NB772_816.out
                          have hnb114 := NB816_783.out
                          have hnc114 := NB783_816.out
                          have hnb115 := NB816_794.out
                          have hnc115 := NB794_816.out
                          have hcz116_0 : w97.cell? ⟨gb816, 0, none⟩ = some (.int .i64 0) := (blk_cell BK816.out 0).trans rfl
                          have hcz116_1 : w97.cell? ⟨gb816, 1, none⟩ = some (.slice none 0 0) := (blk_cell BK816.out 1).trans rfl
                          have hfz116_0 := blk_frozen BK816.out 0
                          have hfz116_1 := blk_frozen BK816.out 1
                          have hnb117 := NB783_772.out
                          have hnc117 := NB772_783.out
                          have hnb118 := NB783_794.out
                          have hnc118 := NB794_783.out
                          have hcz119_0 : w97.cell? ⟨gb783, 0, none⟩ = some (.int .i64 t778) := (blk_cell BK783.out 0).trans rfl
                          have hcz119_1 : w97.cell? ⟨gb783, 1, none⟩ = some (.slice Ao21 t779.length co21) := (blk_cell BK783.out 1).trans rfl
                          have hfz119_0 := blk_frozen BK783.out 0
                          have hfz119_1 := blk_frozen BK783.out 1
                          go_wp2_with (first | ((with_reducible refine gate_callee (f := 21) rfl ?_); refine goesL_ (some 86) rfl rfl Try.func21 (by kernel_rfl) rfl #[.agg #[.int .i64 t811, .slice Ao102 t812.length co102], .agg #[.int .i64 t778, .slice Ao21 t779.length co21]] rfl (by (try simp only [List.map_toArray, List.map_cons, List.map_nil]); first | done | rfl | (simp only [List.length_drop, List.length_take]; rfl)) ?_; (with_reducible refine (laws_eqMatrix.calls kj50 t811 _ _ t812 t778 _ _ t779 false _ ?side1 ?side2 ?side3 ?side4 A103.out).mono ?_); (case side1 => refine (Kd.R_reads' (e := 2) (base := w.heap.size) (ok := fun k_ => (((True ∧ some k_ ≠ (.slice Ao21 t779.length co21 : Value).ownBlock) ∧ some k_ ≠ (.slice Ao31 t790.length co31 : Value).ownBlock) ∧ some k_ ≠ (.slice Ao95 t808.length co95 : Value).ownBlock)) (n := t812.length) (c := co102) ?_).2.2; exact (by (with_reducible repeat (first | apply Kd.R_alloc | apply Kd.R_drewN | apply Kd.R_drew)); exact (Kd.R_mono (Kd.R_far (p := ⟨gb816, 1, none⟩) (Kd.R_far (p := ⟨gb816, 0, none⟩) (Kd.R_types HO814.out BK816.out (by decide)) (fun _ hk => hk.2) (.int .i64 t811)) (fun _ hk => hk.2) (.slice Ao102 t812.length co102)) (fun _ h_ => h_.1)))); (case side2 => exact (Kd.R_reads' HO814.out).2.1); (case side3 => refine (Kd.R_reads' (e := 2) (base := w.heap.size) (ok := fun k_ => ((some k_ ≠ (.slice Ao31 t790.length co31 : Value).ownBlock ∧ some k_ ≠ (.slice Ao95 t808.length co95 : Value).ownBlock) ∧ some k_ ≠ (.slice Ao102 t812.length co102 : Value).ownBlock)) (n := t779.length) (c := co21) ?_).2.2; exact (by (with_reducible repeat (first | apply Kd.R_alloc | apply Kd.R_drewN | apply Kd.R_drew)); exact (Kd.R_mono (Kd.R_far (p := ⟨gb816, 1, none⟩) (Kd.R_far (p := ⟨gb816, 0, none⟩) (Kd.R_types HO_784001.out BK816.out (by decide)) (fun _ hk => hk.2) (.int .i64 t811)) (fun _ hk => hk.2) (.slice Ao102 t812.length co102)) (fun _ h_ => h_.1)))); (case side4 => exact (Kd.R_reads' HO_784001.out).2.1); rintro e w120 ⟨rfl, hb⟩; refine ⟨_, rfl, ?_⟩; have n0_ := Aside0.mk (Kd.R_below (by (with_reducible repeat (first | apply Kd.R_alloc | apply Kd.R_drewN | apply Kd.R_drew)); exact (Kd.R_mono (Kd.R_far (p := ⟨gb816, 1, none⟩) (Kd.R_far (p := ⟨gb816, 0, none⟩) (Kd.R_types HO_784001.out BK816.out (by decide)) (fun _ hk => hk.2) (.int .i64 t811)) (fun _ hk => hk.2) (.slice Ao102 t812.length co102)) (fun _ h_ => h_.1))) hb); have n1_ := Aside0.mk (Kd.R_below (by (with_reducible repeat (first | apply Kd.R_alloc | apply Kd.R_drewN | apply Kd.R_drew)); exact (Kd.R_mono (Kd.R_far (p := ⟨gb816, 1, none⟩) (Kd.R_far (p := ⟨gb816, 0, none⟩) (Kd.R_types HO_795001.out BK816.out (by decide)) (fun _ hk => hk.2) (.int .i64 t811)) (fun _ hk => hk.2) (.slice Ao102 t812.length co102)) (fun _ h_ => h_.1))) hb); have n2_ := Aside0.mk (Kd.R_below (by (with_reducible repeat (first | apply Kd.R_alloc | apply Kd.R_drewN | apply Kd.R_drew)); exact (Kd.R_mono (Kd.R_far (p := ⟨gb816, 1, none⟩) (Kd.R_far (p := ⟨gb816, 0, none⟩) (Kd.R_types HO810.out BK816.out (by decide)) (fun _ hk => hk.2) (.int .i64 t811)) (fun _ hk => hk.2) (.slice Ao102 t812.length co102)) (fun _ h_ => h_.1))) hb); have n3_ := Aside0.mk (Kd.R_below (by (with_reducible repeat (first | apply Kd.R_alloc | apply Kd.R_drewN | apply Kd.R_drew)); exact (Kd.R_mono (Kd.R_far (p := ⟨gb816, 1, none⟩) (Kd.R_far (p := ⟨gb816, 0, none⟩) (Kd.R_types HO814.out BK816.out (by decide)) (fun _ hk => hk.2) (.int .i64 t811)) (fun _ hk => hk.2) (.slice Ao102 t812.length co102)) (fun _ h_ => h_.1))) hb); have n4_ := Aside0.mk (blk_below (g := gb772) (o := .cells #[.int .i64 a0_0, .int .i64 a0_1] 23 (0, 0)) (by (with_reducible repeat (first | refine blk_drewN ?_ _ | refine blk_drew ?_ | refine blk_alloc ?_ _)); refine blk_far ?_ NB772_816.out _; (with_reducible repeat (first | refine blk_drewN ?_ _ | refine blk_drew ?_ | refine blk_alloc ?_ _)); refine blk_far ?_ NB772_816.out _; (with_reducible repeat (first | refine blk_drewN ?_ _ | refine blk_drew ?_ | refine blk_alloc ?_ _)); exact BK772.out) hb); have n5_ := Aside0.mk (blk_below (g := gb783) (o := .cells #[.int .i64 t778, .slice Ao21 t779.length co21] 26 (0, 0)) (by (with_reducible repeat (first | refine blk_drewN ?_ _ | refine blk_drew ?_ | refine blk_alloc ?_ _)); refine blk_far ?_ NB783_816.out _; (with_reducible repeat (first | refine blk_drewN ?_ _ | refine blk_drew ?_ | refine blk_alloc ?_ _)); refine blk_far ?_ NB783_816.out _; (with_reducible repeat (first | refine blk_drewN ?_ _ | refine blk_drew ?_ | refine blk_alloc ?_ _)); exact BK783.out) hb); have n6_ := Aside0.mk (blk_below (g := gb794) (o := .cells #[.int .i64 t789, .slice Ao31 t790.length co31] 26 (0, 0)) (by (with_reducible repeat (first | refine blk_drewN ?_ _ | refine blk_drew ?_ | refine blk_alloc ?_ _)); refine blk_far ?_ NB794_816.out _; (with_reducible repeat (first | refine blk_drewN ?_ _ | refine blk_drew ?_ | refine blk_alloc ?_ _)); refine blk_far ?_ NB794_816.out _; (with_reducible repeat (first | refine blk_drewN ?_ _ | refine blk_drew ?_ | refine blk_alloc ?_ _)); exact BK794.out) hb); have n7_ := Aside0.mk (blk_below (g := gb816) (o := .cells #[.int .i64 t811, .slice Ao102 t812.length co102] 26 (0, 0)) (by (with_reducible repeat (first | refine blk_drewN ?_ _ | refine blk_drew ?_ | refine blk_alloc ?_ _)); refine blk_put (cs := #[.int .i64 t811, .slice none 0 0]) ?_ 1 _ rfl; (with_reducible repeat (first | refine blk_drewN ?_ _ | refine blk_drew ?_ | refine blk_alloc ?_ _)); refine blk_put (cs := #[.int .i64 0, .slice none 0 0]) ?_ 0 _ rfl; (with_reducible repeat (first | refine blk_drewN ?_ _ | refine blk_drew ?_ | refine blk_alloc ?_ _)); exact BK816.out) hb); have n8_ := Aside0.mk (below_step (by repeat (first | (with_reducible first | exact HB.out | apply below_alloc | apply pw_below_drewN | apply below_drew1 | refine below_set ?_ GE772.out | refine below_set ?_ GE783.out | refine below_set ?_ GE794.out | refine below_set ?_ GE816.out) | exact HB.out)) hb); clear HO_784001; clear HO_795001; clear HO810; clear HO814; clear BK772; clear BK783; clear BK794; clear BK816; clear HB; have HO_784001 := n0_; have HO_795001 := n1_; have HO810 := n2_; have HO814 := n3_; have BK772 := n4_; have BK783 := n5_; have BK794 := n6_; have BK816 := n7_; have HB := n8_; clear n0_ n1_ n2_ n3_ n4_ n5_ n6_ n7_ n8_; (try clear hb); (try clear hb2); (try clear hk); (try clear hi)))
                          go_meet
                          case rel => exact ⟨_, (true), (by first | rfl | (simp; done) | (simp [*]; done)), H', ⟨by have := HJ10.out; have := HJ50.out; first | omega | exact Nat.le_refl _⟩, ⟨by (with_reducible repeat (first | apply Kd.R_alloc | apply Kd.R_drewN | apply Kd.R_drew)); exact Kd.R_mono HO_784001.out (fun _ hk => ⟨hk.1.1, hk.2⟩)⟩, ⟨by (with_reducible repeat (first | apply Kd.R_alloc | apply Kd.R_drewN | apply Kd.R_drew)); exact Kd.R_mono HO_795001.out (fun _ hk => ⟨hk.1.1, hk.2⟩)⟩, ⟨by (with_reducible repeat (first | apply Kd.R_alloc | apply Kd.R_drewN | apply Kd.R_drew)); exact Kd.R_mono HO814.out (fun _ hk => ⟨hk.1.1.2, hk.1.2⟩)⟩, ⟨by (with_reducible repeat (first | refine blk_drewN ?_ _ | refine blk_drew ?_ | refine blk_alloc ?_ _)); exact BK772.out⟩, ⟨by (with_reducible repeat (first | refine blk_drewN ?_ _ | refine blk_drew ?_ | refine blk_alloc ?_ _)); exact BK783.out⟩, ⟨by (with_reducible repeat (first | refine blk_drewN ?_ _ | refine blk_drew ?_ | refine blk_alloc ?_ _)); exact BK794.out⟩, ⟨by (with_reducible repeat (first | refine blk_drewN ?_ _ | refine blk_drew ?_ | refine blk_alloc ?_ _)); exact BK816.out⟩, ⟨by repeat (first | (with_reducible first | exact HB.out | apply below_alloc | apply pw_below_drewN | apply below_drew1 | refine below_set ?_ GE772.out | refine below_set ?_ GE783.out | refine below_set ?_ GE794.out | refine below_set ?_ GE816.out) | exact HB.out)⟩⟩
                      case rest =>
                        clear HC84
                        try clear c1
                        try clear c2
                        try clear p2
                        try clear c3
                        try clear c3b0
                        try clear c3b1
                        try clear c4
                        try clear c5
                        try clear c6
                        try clear c7
                        try clear c8
                        try clear c9
                        try clear c10
                        try clear c11
                        try clear c18
                        try clear c19
                        try clear c21
                        try clear c22
                        try clear c23
                        try clear c24
                        try clear c25
                        try clear c28
                        try clear c29
                        try clear c33
                        try clear c34
                        try clear c35
                        try clear c37
                        try clear c40
                        try clear c41
                        try clear c43
                        try clear c44
                        try clear c45
                        try clear c46
                        try clear c49
                        try clear c55
                        try clear c55b0
                        try clear c57
                        try clear c58
                        try clear c59
                        try clear c61
                        try clear c64
                        try clear c65
                        try clear c67
                        try clear c70
                        try clear c73
                        try clear c73b0
                        try clear c74
                        try clear c75
                        try clear c80
                        try clear c80b0
                        try clear c80b1
                        try clear c85
                        try clear c86
                        try clear c91
                        try clear c98
                        try clear c99
                        try clear c100
                        try clear c104
                        try clear c105
                        try clear c106
                        try clear c107
                        try clear c109
                        try clear c110
                        try clear c113
                        try clear c114
                        try clear c115
                        try clear c117
                        try clear c118
                        try clear hcz101_0
                        try clear hcz101_1
                        try clear hcz108_0
                        try clear hcz108_1
                        try clear hcz111_0
                        try clear hcz111_1
                        try clear hcz116_0
                        try clear hcz116_1
                        try clear hcz119_0
                        try clear hcz119_1
                        try clear hcz13_0
                        try clear hcz13_1
                        try clear hcz20_0
                        try clear hcz20_1
                        try clear hcz23_0
                        try clear hcz23_1
                        try clear hcz30_0
                        try clear hcz30_1
                        try clear hcz36_0
                        try clear hcz36_1
                        try clear hcz38_0
                        try clear hcz38_1
                        try clear hcz42_0
                        try clear hcz42_1
                        try clear hcz44_0
                        try clear hcz44_1
                        try clear hcz60_0
                        try clear hcz60_1
                        try clear hcz62_0
                        try clear hcz62_1
                        try clear hcz66_0
                        try clear hcz66_1
                        try clear hcz68_0
                        try clear hcz68_1
                        try clear hcz76_0
                        try clear hcz76_1
                        try clear hcz78_0
                        try clear hcz78_1
                        try clear hcz87_0
                        try clear hcz87_1
                        try clear hcz89_0
                        try clear hcz89_1
                        try clear hcz92_0
                        try clear hcz92_1
                        try clear hfz101_0
                        try clear hfz101_1
                        try clear hfz108_0
                        try clear hfz108_1
                        try clear hfz111_0
                        try clear hfz111_1
                        try clear hfz116_0
                        try clear hfz116_1
                        try clear hfz119_0
                        try clear hfz119_1
                        try clear hfz13_0
                        try clear hfz13_1
                        try clear hfz20_0
                        try clear hfz20_1
                        try clear hfz23_0
                        try clear hfz23_1
                        try clear hfz30_0
                        try clear hfz30_1
                        try clear hfz36_0
                        try clear hfz36_1
                        try clear hfz38_0
                        try clear hfz38_1
                        try clear hfz42_0
                        try clear hfz42_1
                        try clear hfz44_0
                        try clear hfz44_1
                        try clear hfz60_0
                        try clear hfz60_1
                        try clear hfz62_0
                        try clear hfz62_1
                        try clear hfz66_0
                        try clear hfz66_1
                        try clear hfz68_0
                        try clear hfz68_1
                        try clear hfz76_0
                        try clear hfz76_1
                        try clear hfz78_0
                        try clear hfz78_1
                        try clear hfz87_0
                        try clear hfz87_1
                        try clear hfz89_0
                        try clear hfz89_1
                        try clear hfz92_0
                        try clear hfz92_1
                        try clear p2
                        obtain ⟨kq, x92_83, rfl, HA, HJ83, HO_784001, HO_795001, HO_817001, BK772, BK783, BK794, BK816, HB⟩ := hcut
                        have hl795001_83 := (Kd.R_reads' HO_795001.out).1
                        rw [hl795001_83] at HO_795001
                        (try simp only [hl795001_83])
                        (try simp only [hl795001_83] at BK772)
                        (try simp only [hl795001_83] at BK783)
                        (try simp only [hl795001_83] at BK794)
                        (try simp only [hl795001_83] at BK816)
                        (try simp only [hl795001_83] at HO_784001)
                        (try simp only [hl795001_83] at HO_817001)
                        cases kq with
                        | zero => exact absurd HA.out (by simp [laws_FnExactColumnSupport.j2])
                        | succ kj83 =>
                          have H := HA.out
                          clear HA
                          simp only [laws_FnExactColumnSupport.j2] at H
                          by_cases c121 : x92_83 = true
                          · subst c121
                            have H1 : (some false) = some r := by rw [if_pos rfl] at H; exact H
                            clear H
                            have H := H1
                            clear H1
                            obtain rfl := Option.some.inj H
                            go_wp2
                            go_ret
                            exact ⟨by first | rfl | (simp [errW_none, errW_some] <;> rfl) | (simp [*, errW_none, errW_some] <;> rfl), by repeat (first | (with_reducible first | exact HB.out | apply below_alloc | apply pw_below_drewN | apply below_drew1 | refine below_set ?_ GE772.out | refine below_set ?_ GE783.out | refine below_set ?_ GE794.out | refine below_set ?_ GE816.out) | exact HB.out)⟩
                          · replace c121 := Bool.eq_false_iff.mpr c121
                            subst c121
                            have H1 : ((laws_heldMatrix.f kj83 t789 t804 1).bind fun t818 => (if t818 < 0 then (some false) else (if t818 = t803 then (some true) else (some false)))) = some r := by rw [if_neg (show ¬ (false = true) by decide)] at H; exact H
                            clear H
                            have H := H1
                            clear H1
                            replace H := Option.bind_eq_some_iff.mp H
                            obtain ⟨t818, A1220, H⟩ := H
                            replace H : (if t818 < 0 then (some false) else (if t818 = t803 then (some true) else (some false))) = some r := H
                            have A122 := Aside0.mk A1220
                            clear A1220
                            by_cases c123 : t818 < 0
                            · rw [if_pos c123] at H
                              have c123b0 : decide (t818 < 0) = true := decide_eq_true c123
                              clear c123
                              (try (have c123b0z := c123b0; simp only [hl795001_83] at c123b0z))
                              obtain rfl := Option.some.inj H
                              have hnb124 := NB794_772.out
                              have hnc124 := NB772_794.out
                              have hnb125 := NB794_783.out
                              have hnc125 := NB783_794.out
                              have hnb126 := NB794_816.out
                              have hnc126 := NB816_794.out
                              have hcz127_0 : wc.cell? ⟨gb794, 0, none⟩ = some (.int .i64 t789) := (blk_cell BK794.out 0).trans rfl
                              have hcz127_1 : wc.cell? ⟨gb794, 1, none⟩ = some (.slice Ao31 t804.length co31) := (blk_cell BK794.out 1).trans rfl
                              have hfz127_0 := blk_frozen BK794.out 0
                              have hfz127_1 := blk_frozen BK794.out 1
                              go_wp2_with (first | ((with_reducible refine gate_callee (f := 25) rfl ?_); refine goesL_ (some 95) rfl rfl Try.func25 (by kernel_rfl) rfl #[.agg #[.int .i64 t789, .slice Ao31 t804.length co31], .int .i64 1] rfl (by (try simp only [List.map_toArray, List.map_cons, List.map_nil]); first | done | rfl | (simp only [List.length_drop, List.length_take]; rfl)) ?_; (with_reducible refine (laws_heldMatrix.calls kj83 t789 _ _ t804 1 t818 _ ?side1 ?side2 A122.out).mono ?_); (case side1 => repeat (first | exact (Kd.R_reads' HO_795001.out).2.2 | (with_reducible refine Kd.C_alloc ?_ _) | (with_reducible refine Kd.C_drewN ?_ _) | (with_reducible refine Kd.C_drew ?_))); (case side2 => exact (Kd.R_reads' HO_795001.out).2.1); rintro e w128 ⟨rfl, hb⟩; refine ⟨_, rfl, ?_⟩; have n0_ := Aside0.mk (Kd.R_below (by (with_reducible repeat (first | apply Kd.R_alloc | apply Kd.R_drewN | apply Kd.R_drew)); exact HO_784001.out) hb); have n1_ := Aside0.mk (Kd.R_below (by (with_reducible repeat (first | apply Kd.R_alloc | apply Kd.R_drewN | apply Kd.R_drew)); exact HO_795001.out) hb); have n2_ := Aside0.mk (Kd.R_below (by (with_reducible repeat (first | apply Kd.R_alloc | apply Kd.R_drewN | apply Kd.R_drew)); exact HO_817001.out) hb); have n3_ := Aside0.mk (blk_below (g := gb772) (o := .cells #[.int .i64 a0_0, .int .i64 a0_1] 23 (0, 0)) (by (with_reducible repeat (first | refine blk_drewN ?_ _ | refine blk_drew ?_ | refine blk_alloc ?_ _)); exact BK772.out) hb); have n4_ := Aside0.mk (blk_below (g := gb783) (o := .cells #[.int .i64 t778, .slice Ao21 t779.length co21] 26 (0, 0)) (by (with_reducible repeat (first | refine blk_drewN ?_ _ | refine blk_drew ?_ | refine blk_alloc ?_ _)); exact BK783.out) hb); have n5_ := Aside0.mk (blk_below (g := gb794) (o := .cells #[.int .i64 t789, .slice Ao31 t804.length co31] 26 (0, 0)) (by (with_reducible repeat (first | refine blk_drewN ?_ _ | refine blk_drew ?_ | refine blk_alloc ?_ _)); exact BK794.out) hb); have n6_ := Aside0.mk (blk_below (g := gb816) (o := .cells #[.int .i64 t811, .slice Ao102 t812.length co102] 26 (0, 0)) (by (with_reducible repeat (first | refine blk_drewN ?_ _ | refine blk_drew ?_ | refine blk_alloc ?_ _)); exact BK816.out) hb); have n7_ := Aside0.mk (below_step (by repeat (first | (with_reducible first | exact HB.out | apply below_alloc | apply pw_below_drewN | apply below_drew1 | refine below_set ?_ GE772.out | refine below_set ?_ GE783.out | refine below_set ?_ GE794.out | refine below_set ?_ GE816.out) | exact HB.out)) hb); clear HO_784001; clear HO_795001; clear HO_817001; clear BK772; clear BK783; clear BK794; clear BK816; clear HB; have HO_784001 := n0_; have HO_795001 := n1_; have HO_817001 := n2_; have BK772 := n3_; have BK783 := n4_; have BK794 := n5_; have BK816 := n6_; have HB := n7_; clear n0_ n1_ n2_ n3_ n4_ n5_ n6_ n7_; (try clear hb); (try clear hb2); (try clear hk); (try clear hi)))
                              go_ret
                              exact ⟨by first | rfl | (simp [errW_none, errW_some] <;> rfl) | (simp [*, errW_none, errW_some] <;> rfl), by repeat (first | (with_reducible first | exact HB.out | apply below_alloc | apply pw_below_drewN | apply below_drew1 | refine below_set ?_ GE772.out | refine below_set ?_ GE783.out | refine below_set ?_ GE794.out | refine below_set ?_ GE816.out) | exact HB.out)⟩
                            · rw [if_neg c123] at H
                              have c123b0 : decide (t818 < 0) = false := decide_eq_false c123
                              clear c123
                              (try (have c123b0z := c123b0; simp only [hl795001_83] at c123b0z))
                              by_cases c129 : t818 = t803
                              · rw [if_pos c129] at H
                                have c129b0 : (t818 == t803) = true := beq_iff_eq.mpr c129
                                have c129b1 : (t818 != t803) = false := bne_eq_false_iff_eq.mpr c129
                                clear c129
                                (try (have c129b0z := c129b0; simp only [hl795001_83] at c129b0z))
                                (try (have c129b1z := c129b1; simp only [hl795001_83] at c129b1z))
                                obtain rfl := Option.some.inj H
                                have hnb130 := NB794_772.out
                                have hnc130 := NB772_794.out
                                have hnb131 := NB794_783.out
                                have hnc131 := NB783_794.out
                                have hnb132 := NB794_816.out
                                have hnc132 := NB816_794.out
                                have hcz133_0 : wc.cell? ⟨gb794, 0, none⟩ = some (.int .i64 t789) := (blk_cell BK794.out 0).trans rfl
                                have hcz133_1 : wc.cell? ⟨gb794, 1, none⟩ = some (.slice Ao31 t804.length co31) := (blk_cell BK794.out 1).trans rfl
                                have hfz133_0 := blk_frozen BK794.out 0
                                have hfz133_1 := blk_frozen BK794.out 1
                                go_wp2_with (first | ((with_reducible refine gate_callee (f := 25) rfl ?_); refine goesL_ (some 95) rfl rfl Try.func25 (by kernel_rfl) rfl #[.agg #[.int .i64 t789, .slice Ao31 t804.length co31], .int .i64 1] rfl (by (try simp only [List.map_toArray, List.map_cons, List.map_nil]); first | done | rfl | (simp only [List.length_drop, List.length_take]; rfl)) ?_; (with_reducible refine (laws_heldMatrix.calls kj83 t789 _ _ t804 1 t818 _ ?side1 ?side2 A122.out).mono ?_); (case side1 => repeat (first | exact (Kd.R_reads' HO_795001.out).2.2 | (with_reducible refine Kd.C_alloc ?_ _) | (with_reducible refine Kd.C_drewN ?_ _) | (with_reducible refine Kd.C_drew ?_))); (case side2 => exact (Kd.R_reads' HO_795001.out).2.1); rintro e w134 ⟨rfl, hb⟩; refine ⟨_, rfl, ?_⟩; have n0_ := Aside0.mk (Kd.R_below (by (with_reducible repeat (first | apply Kd.R_alloc | apply Kd.R_drewN | apply Kd.R_drew)); exact HO_784001.out) hb); have n1_ := Aside0.mk (Kd.R_below (by (with_reducible repeat (first | apply Kd.R_alloc | apply Kd.R_drewN | apply Kd.R_drew)); exact HO_795001.out) hb); have n2_ := Aside0.mk (Kd.R_below (by (with_reducible repeat (first | apply Kd.R_alloc | apply Kd.R_drewN | apply Kd.R_drew)); exact HO_817001.out) hb); have n3_ := Aside0.mk (blk_below (g := gb772) (o := .cells #[.int .i64 a0_0, .int .i64 a0_1] 23 (0, 0)) (by (with_reducible repeat (first | refine blk_drewN ?_ _ | refine blk_drew ?_ | refine blk_alloc ?_ _)); exact BK772.out) hb); have n4_ := Aside0.mk (blk_below (g := gb783) (o := .cells #[.int .i64 t778, .slice Ao21 t779.length co21] 26 (0, 0)) (by (with_reducible repeat (first | refine blk_drewN ?_ _ | refine blk_drew ?_ | refine blk_alloc ?_ _)); exact BK783.out) hb); have n5_ := Aside0.mk (blk_below (g := gb794) (o := .cells #[.int .i64 t789, .slice Ao31 t804.length co31] 26 (0, 0)) (by (with_reducible repeat (first | refine blk_drewN ?_ _ | refine blk_drew ?_ | refine blk_alloc ?_ _)); exact BK794.out) hb); have n6_ := Aside0.mk (blk_below (g := gb816) (o := .cells #[.int .i64 t811, .slice Ao102 t812.length co102] 26 (0, 0)) (by (with_reducible repeat (first | refine blk_drewN ?_ _ | refine blk_drew ?_ | refine blk_alloc ?_ _)); exact BK816.out) hb); have n7_ := Aside0.mk (below_step (by repeat (first | (with_reducible first | exact HB.out | apply below_alloc | apply pw_below_drewN | apply below_drew1 | refine below_set ?_ GE772.out | refine below_set ?_ GE783.out | refine below_set ?_ GE794.out | refine below_set ?_ GE816.out) | exact HB.out)) hb); clear HO_784001; clear HO_795001; clear HO_817001; clear BK772; clear BK783; clear BK794; clear BK816; clear HB; have HO_784001 := n0_; have HO_795001 := n1_; have HO_817001 := n2_; have BK772 := n3_; have BK783 := n4_; have BK794 := n5_; have BK816 := n6_; have HB := n7_; clear n0_ n1_ n2_ n3_ n4_ n5_ n6_ n7_; (try clear hb); (try clear hb2); (try clear hk); (try clear hi)))
                                go_ret
                                exact ⟨by first | rfl | (simp [errW_none, errW_some] <;> rfl) | (simp [*, errW_none, errW_some] <;> rfl), by repeat (first | (with_reducible first | exact HB.out | apply below_alloc | apply pw_below_drewN | apply below_drew1 | refine below_set ?_ GE772.out | refine below_set ?_ GE783.out | refine below_set ?_ GE794.out | refine below_set ?_ GE816.out) | exact HB.out)⟩
                              · rw [if_neg c129] at H
                                have c129b0 : (t818 == t803) = false := beq_eq_false_iff_ne.mpr c129
                                have c129b1 : (t818 != t803) = true := bne_iff_ne.mpr c129
                                (try (have c129b0z := c129b0; simp only [hl795001_83] at c129b0z))
                                (try (have c129b1z := c129b1; simp only [hl795001_83] at c129b1z))
                                obtain rfl := Option.some.inj H
                                have hnb135 := NB794_772.out
                                have hnc135 := NB772_794.out
                                have hnb136 := NB794_783.out
                                have hnc136 := NB783_794.out
                                have hnb137 := NB794_816.out
                                have hnc137 := NB816_794.out
                                have hcz138_0 : wc.cell? ⟨gb794, 0, none⟩ = some (.int .i64 t789) := (blk_cell BK794.out 0).trans rfl
                                have hcz138_1 : wc.cell? ⟨gb794, 1, none⟩ = some (.slice Ao31 t804.length co31) := (blk_cell BK794.out 1).trans rfl
                                have hfz138_0 := blk_frozen BK794.out 0
                                have hfz138_1 := blk_frozen BK794.out 1
                                go_wp2_with (first | ((with_reducible refine gate_callee (f := 25) rfl ?_); refine goesL_ (some 95) rfl rfl Try.func25 (by kernel_rfl) rfl #[.agg #[.int .i64 t789, .slice Ao31 t804.length co31], .int .i64 1] rfl (by (try simp only [List.map_toArray, List.map_cons, List.map_nil]); first | done | rfl | (simp only [List.length_drop, List.length_take]; rfl)) ?_; (with_reducible refine (laws_heldMatrix.calls kj83 t789 _ _ t804 1 t818 _ ?side1 ?side2 A122.out).mono ?_); (case side1 => repeat (first | exact (Kd.R_reads' HO_795001.out).2.2 | (with_reducible refine Kd.C_alloc ?_ _) | (with_reducible refine Kd.C_drewN ?_ _) | (with_reducible refine Kd.C_drew ?_))); (case side2 => exact (Kd.R_reads' HO_795001.out).2.1); rintro e w139 ⟨rfl, hb⟩; refine ⟨_, rfl, ?_⟩; have n0_ := Aside0.mk (Kd.R_below (by (with_reducible repeat (first | apply Kd.R_alloc | apply Kd.R_drewN | apply Kd.R_drew)); exact HO_784001.out) hb); have n1_ := Aside0.mk (Kd.R_below (by (with_reducible repeat (first | apply Kd.R_alloc | apply Kd.R_drewN | apply Kd.R_drew)); exact HO_795001.out) hb); have n2_ := Aside0.mk (Kd.R_below (by (with_reducible repeat (first | apply Kd.R_alloc | apply Kd.R_drewN | apply Kd.R_drew)); exact HO_817001.out) hb); have n3_ := Aside0.mk (blk_below (g := gb772) (o := .cells #[.int .i64 a0_0, .int .i64 a0_1] 23 (0, 0)) (by (with_reducible repeat (first | refine blk_drewN ?_ _ | refine blk_drew ?_ | refine blk_alloc ?_ _)); exact BK772.out) hb); have n4_ := Aside0.mk (blk_below (g := gb783) (o := .cells #[.int .i64 t778, .slice Ao21 t779.length co21] 26 (0, 0)) (by (with_reducible repeat (first | refine blk_drewN ?_ _ | refine blk_drew ?_ | refine blk_alloc ?_ _)); exact BK783.out) hb); have n5_ := Aside0.mk (blk_below (g := gb794) (o := .cells #[.int .i64 t789, .slice Ao31 t804.length co31] 26 (0, 0)) (by (with_reducible repeat (first | refine blk_drewN ?_ _ | refine blk_drew ?_ | refine blk_alloc ?_ _)); exact BK794.out) hb); have n6_ := Aside0.mk (blk_below (g := gb816) (o := .cells #[.int .i64 t811, .slice Ao102 t812.length co102] 26 (0, 0)) (by (with_reducible repeat (first | refine blk_drewN ?_ _ | refine blk_drew ?_ | refine blk_alloc ?_ _)); exact BK816.out) hb); have n7_ := Aside0.mk (below_step (by repeat (first | (with_reducible first | exact HB.out | apply below_alloc | apply pw_below_drewN | apply below_drew1 | refine below_set ?_ GE772.out | refine below_set ?_ GE783.out | refine below_set ?_ GE794.out | refine below_set ?_ GE816.out) | exact HB.out)) hb); clear HO_784001; clear HO_795001; clear HO_817001; clear BK772; clear BK783; clear BK794; clear BK816; clear HB; have HO_784001 := n0_; have HO_795001 := n1_; have HO_817001 := n2_; have BK772 := n3_; have BK783 := n4_; have BK794 := n5_; have BK816 := n6_; have HB := n7_; clear n0_ n1_ n2_ n3_ n4_ n5_ n6_ n7_; (try clear hb); (try clear hb2); (try clear hk); (try clear hi)))
                                go_ret
                                exact ⟨by first | rfl | (simp [errW_none, errW_some] <;> rfl) | (simp [*, errW_none, errW_some] <;> rfl), by repeat (first | (with_reducible first | exact HB.out | apply below_alloc | apply pw_below_drewN | apply below_drew1 | refine below_set ?_ GE772.out | refine below_set ?_ GE783.out | refine below_set ?_ GE794.out | refine below_set ?_ GE816.out) | exact HB.out)⟩
                    · rw [if_neg c80] at H
                      have c80b0 : (t805 == t803) = false := beq_eq_false_iff_ne.mpr c80
                      have c80b1 : (t805 != t803) = true := bne_iff_ne.mpr c80
                      obtain rfl := Option.some.inj H
                      have hnb140 := NB794_772.out
                      have hnc140 := NB772_794.out
                      have hnb141 := NB794_783.out
                      have hnc141 := NB783_794.out
                      have hcz142_0 : wc.cell? ⟨gb794, 0, none⟩ = some (.int .i64 t789) := (blk_cell BK794.out 0).trans rfl
                      have hcz142_1 : wc.cell? ⟨gb794, 1, none⟩ = some (.slice Ao31 t790.length co31) := (blk_cell BK794.out 1).trans rfl
                      have hfz142_0 := blk_frozen BK794.out 0
                      have hfz142_1 := blk_frozen BK794.out 1
                      go_wp2_with (first | ((with_reducible refine gate_callee (f := 24) rfl ?_); refine goesL_ (some 67) rfl rfl Try.func24 (by kernel_rfl) rfl #[.agg #[.int .i64 t789, .slice Ao31 t790.length co31], .int .i64 1] rfl (by (try simp only [List.map_toArray, List.map_cons, List.map_nil]); first | done | rfl | (simp only [List.length_drop, List.length_take]; rfl)) ?_; (with_reducible refine (laws_markMatrix.calls kj50 t789 (fun k_ => some k_ = (.slice Ao31 t790.length co31 : Value).ownBlock) (.slice Ao31 t790.length co31) t790 1 t803 t804 w _ ?side1 ?side2 A71.out).mono ?_); (case side1 => repeat (first | (with_reducible first | exact HB.out | apply below_alloc | apply pw_below_drewN | apply below_drew1 | refine below_set ?_ GE772.out | refine below_set ?_ GE783.out | refine below_set ?_ GE794.out) | exact HB.out)); (case side2 => exact Kd.R_tight rfl HO_795001.out); rintro e w143 ⟨rfl, hy0, hb, hkp⟩; refine ⟨_, rfl, ?_⟩; have n0_ := Aside0.mk (Kd.R_mono (ok' := fun k_ => some k_ ≠ (.slice Ao31 t790.length co31 : Value).ownBlock) (Kd.R_keptB (HO_784001.out) hkp (fun k_ hk_ hs_ => (hk_) hs_)) (fun k_ hk_ => hk_.1)); have n1_ := Aside0.mk (Kd.R_reok rfl hy0 (fun k_ e_ => HO_795001.out.1 k_ e_)); have n2_ := Aside0.mk (blk_kept (by (with_reducible repeat (first | refine blk_drewN ?_ _ | refine blk_drew ?_ | refine blk_alloc ?_ _)); exact BK772.out) hkp (fun hs_ => (fun e_ => (Kd.R_ne HO_795001.out BK772.out (by decide)) e_) hs_)); have n3_ := Aside0.mk (blk_kept (by (with_reducible repeat (first | refine blk_drewN ?_ _ | refine blk_drew ?_ | refine blk_alloc ?_ _)); exact BK783.out) hkp (fun hs_ => (fun e_ => (Kd.R_ne HO_795001.out BK783.out (by decide)) e_) hs_)); have n4_ := Aside0.mk (blk_kept (by (with_reducible repeat (first | refine blk_drewN ?_ _ | refine blk_drew ?_ | refine blk_alloc ?_ _)); exact BK794.out) hkp (fun hs_ => (fun e_ => (Kd.R_ne HO_795001.out BK794.out (by decide)) e_) hs_)); have n5_ := Aside0.mk (hb); clear HO_784001; clear HO_795001; clear BK772; clear BK783; clear BK794; clear HB; have HO_784001 := n0_; have HO_795001 := n1_; have BK772 := n2_; have BK783 := n3_; have BK794 := n4_; have HB := n5_; clear n0_ n1_ n2_ n3_ n4_ n5_; (try clear hb); (try clear hkp); (try clear hy0); have hcz144_0 : w143.cell? ⟨gb794, 0, none⟩ = some (.int .i64 t789) := (blk_cell BK794.out 0).trans rfl; have hcz144_1 : w143.cell? ⟨gb794, 1, none⟩ = some (.slice Ao31 t790.length co31) := (blk_cell BK794.out 1).trans rfl; have hfz144_0 := blk_frozen BK794.out 0; have hfz144_1 := blk_frozen BK794.out 1) | ((with_reducible refine gate_callee (f := 25) rfl ?_); refine goesL_ (some 70) rfl rfl Try.func25 (by kernel_rfl) rfl #[.agg #[.int .i64 t789, .slice Ao31 t804.length co31], .int .i64 1] rfl (by (try simp only [List.map_toArray, List.map_cons, List.map_nil]); first | done | (rw [show t804.length = t790.length from (Kd.R_reads' HO_795001.out).1.symm] <;> rfl) | rfl | (simp only [List.length_drop, List.length_take]; rfl)) ?_; (with_reducible refine (laws_heldMatrix.calls kj50 t789 _ _ t804 1 t805 _ ?side1 ?side2 A72.out).mono ?_); (case side1 => repeat (first | exact (Kd.R_reads' HO_795001.out).2.2 | (with_reducible refine Kd.C_alloc ?_ _) | (with_reducible refine Kd.C_drewN ?_ _) | (with_reducible refine Kd.C_drew ?_))); (case side2 => rw [show t804.length = t790.length from (Kd.R_reads' HO_795001.out).1.symm]; exact (Kd.R_reads' HO_795001.out).2.1); rintro e w145 ⟨rfl, hb⟩; refine ⟨_, rfl, ?_⟩; have n0_ := Aside0.mk (Kd.R_below (by (with_reducible repeat (first | apply Kd.R_alloc | apply Kd.R_drewN | apply Kd.R_drew)); exact HO_784001.out) hb); have n1_ := Aside0.mk (Kd.R_below (by (with_reducible repeat (first | apply Kd.R_alloc | apply Kd.R_drewN | apply Kd.R_drew)); exact HO_795001.out) hb); have n2_ := Aside0.mk (blk_below (g := gb772) (o := .cells #[.int .i64 a0_0, .int .i64 a0_1] 23 (0, 0)) (by (with_reducible repeat (first | refine blk_drewN ?_ _ | refine blk_drew ?_ | refine blk_alloc ?_ _)); exact BK772.out) hb); have n3_ := Aside0.mk (blk_below (g := gb783) (o := .cells #[.int .i64 t778, .slice Ao21 t779.length co21] 26 (0, 0)) (by (with_reducible repeat (first | refine blk_drewN ?_ _ | refine blk_drew ?_ | refine blk_alloc ?_ _)); exact BK783.out) hb); have n4_ := Aside0.mk (blk_below (g := gb794) (o := .cells #[.int .i64 t789, .slice Ao31 t790.length co31] 26 (0, 0)) (by (with_reducible repeat (first | refine blk_drewN ?_ _ | refine blk_drew ?_ | refine blk_alloc ?_ _)); exact BK794.out) hb); have n5_ := Aside0.mk (below_step (by repeat (first | (with_reducible first | exact HB.out | apply below_alloc | apply pw_below_drewN | apply below_drew1 | refine below_set ?_ GE772.out | refine below_set ?_ GE783.out | refine below_set ?_ GE794.out) | exact HB.out)) hb); clear HO_784001; clear HO_795001; clear BK772; clear BK783; clear BK794; clear HB; have HO_784001 := n0_; have HO_795001 := n1_; have BK772 := n2_; have BK783 := n3_; have BK794 := n4_; have HB := n5_; clear n0_ n1_ n2_ n3_ n4_ n5_; (try clear hb); (try clear hb2); (try clear hk); (try clear hi)))
                      go_ret
                      exact ⟨by first | rfl | (simp [errW_none, errW_some] <;> rfl) | (simp [*, errW_none, errW_some] <;> rfl), by repeat (first | (with_reducible first | exact HB.out | apply below_alloc | apply pw_below_drewN | apply below_drew1 | refine below_set ?_ GE772.out | refine below_set ?_ GE783.out | refine below_set ?_ GE794.out) | exact HB.out)⟩
          · replace c49 := Bool.eq_false_iff.mpr c49
            subst c49
            have H1 : (some false) = some r := by rw [if_neg (show ¬ (false = true) by decide)] at H; exact H
            clear H
            have H := H1
            clear H1
            obtain rfl := Option.some.inj H
            go_wp2_with (first | ((with_reducible refine gate_callee (f := 19) rfl ?_); refine goesL_ (some 46) rfl rfl Try.func19 (by kernel_rfl) rfl #[.slice A1 l1.length c1] rfl (by (try simp only [List.map_toArray, List.map_cons, List.map_nil]); first | done | rfl | (simp only [List.length_drop, List.length_take]; rfl)) ?_; (with_reducible refine (laws_toInt64S.calls kj10 _ _ l1 t796 _ ?side1 ?side2 A47.out).mono ?_); (case side1 => repeat (first | exact (Kd.C_below HR1.out HB.out) | (with_reducible refine Kd.C_alloc ?_ _) | (with_reducible refine Kd.C_drewN ?_ _) | (with_reducible refine Kd.C_drew ?_))); (case side2 => exact HC1.out); rintro e w146 ⟨v797, rfl, ho0, hb⟩; refine ⟨_, rfl, ?_⟩; have n0_ := Aside0.mk (Kd.R_elder' (by (with_reducible repeat (first | apply Kd.R_alloc | apply Kd.R_drewN | apply Kd.R_drew)); exact HO_7.out) (Kd.R_base ho0) hb); have n1_ := Aside0.mk (Kd.R_elder' (by (with_reducible repeat (first | apply Kd.R_alloc | apply Kd.R_drewN | apply Kd.R_drew)); exact HO_784001.out) (Kd.R_base ho0) hb); have n2_ := Aside0.mk (Kd.R_elder' (by (with_reducible repeat (first | apply Kd.R_alloc | apply Kd.R_drewN | apply Kd.R_drew)); exact HO_795001.out) (Kd.R_base ho0) hb); have n3_ := Aside0.mk (Kd.R_lower (Kd.R_new' (Kd.R_new' (Kd.R_new' ho0 (Kd.R_lt (by (with_reducible repeat (first | apply Kd.R_alloc | apply Kd.R_drewN | apply Kd.R_drew)); exact HO_7.out))) (Kd.R_lt (by (with_reducible repeat (first | apply Kd.R_alloc | apply Kd.R_drewN | apply Kd.R_drew)); exact HO_784001.out))) (Kd.R_lt (by (with_reducible repeat (first | apply Kd.R_alloc | apply Kd.R_drewN | apply Kd.R_drew)); exact HO_795001.out))) (below_size (by repeat (first | (with_reducible first | exact HB.out | apply below_alloc | apply pw_below_drewN | apply below_drew1 | refine below_set ?_ GE772.out | refine below_set ?_ GE783.out | refine below_set ?_ GE794.out) | exact HB.out)))); have n4_ := Aside0.mk (blk_below (g := gb772) (o := .cells #[.int .i64 a0_0, .int .i64 a0_1] 23 (0, 0)) (by (with_reducible repeat (first | refine blk_drewN ?_ _ | refine blk_drew ?_ | refine blk_alloc ?_ _)); exact BK772.out) hb); have n5_ := Aside0.mk (blk_below (g := gb783) (o := .cells #[.int .i64 t778, .slice Ao21 t779.length co21] 26 (0, 0)) (by (with_reducible repeat (first | refine blk_drewN ?_ _ | refine blk_drew ?_ | refine blk_alloc ?_ _)); exact BK783.out) hb); have n6_ := Aside0.mk (blk_below (g := gb794) (o := .cells #[.int .i64 t789, .slice Ao31 t790.length co31] 26 (0, 0)) (by (with_reducible repeat (first | refine blk_drewN ?_ _ | refine blk_drew ?_ | refine blk_alloc ?_ _)); exact BK794.out) hb); have n7_ := Aside0.mk (below_step (by repeat (first | (with_reducible first | exact HB.out | apply below_alloc | apply pw_below_drewN | apply below_drew1 | refine below_set ?_ GE772.out | refine below_set ?_ GE783.out | refine below_set ?_ GE794.out) | exact HB.out)) hb); clear HO_7; clear HO_784001; clear HO_795001; clear BK772; clear BK783; clear BK794; clear HB; have HO_7 := n0_; have HO_784001 := n1_; have HO_795001 := n2_; have HO798 := n3_; have BK772 := n4_; have BK783 := n5_; have BK794 := n6_; have HB := n7_; clear n0_ n1_ n2_ n3_ n4_ n5_ n6_ n7_; (try clear hb); (try clear hb2); (try clear hk); (try clear hi); (try clear ho0); obtain ⟨Ao147, co147, eo147⟩ := Kd.R_slice HO798.out; subst eo147) | ((with_reducible refine gate_callee (f := 22) rfl ?_); refine goesL_ (some 47) rfl rfl Try.func22 (by kernel_rfl) rfl #[.slice Ao25 t784.length co25, .slice Ao147 t796.length co147] rfl (by (try simp only [List.map_toArray, List.map_cons, List.map_nil]); first | done | rfl | (simp only [List.length_drop, List.length_take]; rfl)) ?_; (with_reducible refine (laws_eqInt64S.calls kj10 _ _ t784 _ _ t796 false _ ?side1 ?side2 ?side3 ?side4 A48.out).mono ?_); (case side1 => repeat (first | exact (Kd.R_reads' HO_7.out).2.2 | (with_reducible refine Kd.C_alloc ?_ _) | (with_reducible refine Kd.C_drewN ?_ _) | (with_reducible refine Kd.C_drew ?_))); (case side2 => exact (Kd.R_reads' HO_7.out).2.1); (case side3 => repeat (first | exact (Kd.R_reads' HO798.out).2.2 | (with_reducible refine Kd.C_alloc ?_ _) | (with_reducible refine Kd.C_drewN ?_ _) | (with_reducible refine Kd.C_drew ?_))); (case side4 => exact (Kd.R_reads' HO798.out).2.1); rintro e w' ⟨rfl, ⟨nd, rfl⟩⟩; refine ⟨_, rfl, ?_⟩))
            go_ret
            exact ⟨by first | rfl | (simp [errW_none, errW_some] <;> rfl) | (simp [*, errW_none, errW_some] <;> rfl), by repeat (first | (with_reducible first | exact HB.out | apply below_alloc | apply pw_below_drewN | apply below_drew1 | refine below_set ?_ GE772.out | refine below_set ?_ GE783.out | refine below_set ?_ GE794.out) | exact HB.out)⟩

end Go.Proofs.Ytngiionckbmkmaa.P
