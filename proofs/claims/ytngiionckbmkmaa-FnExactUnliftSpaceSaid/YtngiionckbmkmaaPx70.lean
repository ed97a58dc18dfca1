-- written by a program of this seat's prover (wip/myprint.py) over the kit's print
import Derived.Test.YtngiionckbmkmaaPx0
import Derived.Test.YtngiionckbmkmaaPx1
import Derived.Test.YtngiionckbmkmaaPx2
import Derived.Test.YtngiionckbmkmaaPx6
import Derived.Test.YtngiionckbmkmaaPx14
import Derived.Test.YtngiionckbmkmaaPx49
import Derived.Test.YtngiionckbmkmaaPx50
import Derived.Test.YtngiionckbmkmaaPx51
import Derived.Test.YtngiionckbmkmaaPx53
namespace Go.Proofs.Ytngiionckbmkmaa.P
open Go.Shelf Go.RowKit Go.Proofs.YtngiionckbmkmaaW.PrintWords Go.Proofs.YtngiionckbmkmaaW.PrintLast Go.Proofs.YtngiionckbmkmaaW.PrintMore
attribute [local go_sem] max2_int min2_int max_two min_two max_three min_three max_four min_four   -- for this text's walks alone
set_option linter.unusedVariables false
set_option linter.unusedSimpArgs false

/-! ### laws_FnExactUnliftSpace: function 12 -/
mutual
def laws_FnExactUnliftSpace.j0 : Nat → Int → List Int → Int → List Int → Int → Bool → Int → Int → Int → List Int → Int → List Int → Option (Bool)
  | 0, _, _, _, _, _, _, _, _, _, _, _, _ => none
  | k + 1, x1, x8, x9, x11, x12, x50, x905000, x905001, x906000, x906001, x922000, x922001 => if x50 = true then (some false) else ((laws_toMatrix.f k x906000 x906001).bind fun bt929 => ((laws_eqMatrix.f k x922000 x922001 bt929.1 bt929.2).bind fun t933 => (if t933 = true then ((laws_markMatrix.f k x922000 x922001 1).bind fun bt934 => (if bt934.1 < 0 then (laws_FnExactUnliftSpace.j1 k x1 x8 x9 x11 true x905000 x905001 x906000 x906001) else ((laws_eqInt64S.f k x11 x8).bind fun t936 => (if t936 = true then (laws_FnExactUnliftSpace.j1 k x1 x8 x9 x11 (x12 != x9) x905000 x905001 x906000 x906001) else (laws_FnExactUnliftSpace.j1 k x1 x8 x9 x11 true x905000 x905001 x906000 x906001))))) else (some false))))
def laws_FnExactUnliftSpace.j1 : Nat → Int → List Int → Int → List Int → Bool → Int → Int → Int → List Int → Option (Bool)
  | 0, _, _, _, _, _, _, _, _, _ => none
  | k + 1, x1, x8, x9, x11, x71, x905000, x905001, x906000, x906001 => if x71 = true then (some false) else ((laws_markInt64S.f k x11 1).bind fun bt937 => ((laws_heldInt64S.f k bt937.2 1).bind fun t939 => (if t939 < 0 then (some false) else (if t939 = bt937.1 then ((laws_toField.f x905000 x905001).bind fun bt940 => ((laws_toMatrix.f k x906000 x906001).bind fun bt942 => ((impl_UnliftSpace.f k bt940.1 bt940.2 x1 bt942.1 bt942.2).bind fun bt946 => ((laws_eqInt64S.f k bt946.1 x8).bind fun t950 => (if t950 = true then (laws_FnExactUnliftSpace.j2 k bt937.2 bt937.1 (bt946.2 != x9)) else (laws_FnExactUnliftSpace.j2 k bt937.2 bt937.1 true)))))) else (some false)))))
def laws_FnExactUnliftSpace.j2 : Nat → List Int → Int → Bool → Option (Bool)
  | 0, _, _, _ => none
  | k + 1, x11, x14, x100 => if x100 = true then (some false) else ((laws_heldInt64S.f k x11 1).bind fun t951 => (if t951 < 0 then (some false) else (if t951 = x14 then (some true) else (some false))))
end
def laws_FnExactUnliftSpace.f (k : Nat) (a0_0 : Int) (a0_1 : Int) (a1 : Int) (a2_0 : Int) (l2_1 : List Int) : Option (Bool) := (laws_szMatrix.f a2_0 l2_1 1048576).bind fun t906 => (if t906 < 0 then (some true) else ((laws_toField.f a0_0 a0_1).bind fun bt907 => ((laws_toMatrix.f k a2_0 l2_1).bind fun bt909 => ((spec_UnliftSpace.f k bt907.1 bt907.2 a1 bt909.1 bt909.2).bind fun bt913 => ((laws_toMatrix.f k a2_0 l2_1).bind fun bt917 => ((laws_toField.f a0_0 a0_1).bind fun bt922 => ((impl_UnliftSpace.f k bt922.1 bt922.2 a1 bt917.1 bt917.2).bind fun bt924 => ((laws_eqInt64S.f k bt924.1 bt913.1).bind fun t928 => (if t928 = true then (laws_FnExactUnliftSpace.j0 k a1 bt913.1 bt913.2 bt924.1 bt924.2 (bt924.2 != bt913.2) a0_0 a0_1 a2_0 l2_1 bt917.1 bt917.2) else (laws_FnExactUnliftSpace.j0 k a1 bt913.1 bt913.2 bt924.1 bt924.2 true a0_0 a0_1 a2_0 l2_1 bt917.1 bt917.2))))))))))
theorem laws_FnExactUnliftSpace.mono_l : ∀ k, (∀ y0 y1 y2 y3 y4 y5 y6 y7 y8 y9 y10 y11, LeO (laws_FnExactUnliftSpace.j0 k y0 y1 y2 y3 y4 y5 y6 y7 y8 y9 y10 y11) (laws_FnExactUnliftSpace.j0 (k + 1) y0 y1 y2 y3 y4 y5 y6 y7 y8 y9 y10 y11)) ∧ (∀ y0 y1 y2 y3 y4 y5 y6 y7 y8, LeO (laws_FnExactUnliftSpace.j1 k y0 y1 y2 y3 y4 y5 y6 y7 y8) (laws_FnExactUnliftSpace.j1 (k + 1) y0 y1 y2 y3 y4 y5 y6 y7 y8)) ∧ (∀ y0 y1 y2, LeO (laws_FnExactUnliftSpace.j2 k y0 y1 y2) (laws_FnExactUnliftSpace.j2 (k + 1) y0 y1 y2))
  | 0 => ⟨fun _ _ _ _ _ _ _ _ _ _ _ _ r h => by simp [laws_FnExactUnliftSpace.j0] at h, fun _ _ _ _ _ _ _ _ _ r h => by simp [laws_FnExactUnliftSpace.j1] at h, fun _ _ _ r h => by simp [laws_FnExactUnliftSpace.j2] at h⟩
  | k + 1 => by
    obtain ⟨ih0, ih1, ih2⟩ := laws_FnExactUnliftSpace.mono_l k
    refine ⟨?_, ?_, ?_⟩
    · intro y0 y1 y2 y3 y4 y5 y6 y7 y8 y9 y10 y11
      unfold laws_FnExactUnliftSpace.j0
      repeat' first
      | (with_reducible exact ih0 _ _ _ _ _ _ _ _ _ _ _ _)
      | (with_reducible exact ih1 _ _ _ _ _ _ _ _ _)
      | (with_reducible exact ih2 _ _ _)
      | (with_reducible exact impl_UnliftSpace.mono _ _ _ _ _ _)
      | (with_reducible exact laws_eqInt64S.mono _ _ _)
      | (with_reducible exact laws_eqMatrix.mono _ _ _ _ _)
      | (with_reducible exact laws_heldInt64S.mono _ _ _)
      | (with_reducible exact laws_markInt64S.mono _ _ _)
      | (with_reducible exact laws_markMatrix.mono _ _ _ _)
      | (with_reducible exact laws_toMatrix.mono _ _ _)
      | (with_reducible exact spec_UnliftSpace.mono _ _ _ _ _ _)
      | (with_reducible exact LeO.refl _)
      | (with_reducible exact LeO.none _)
      | (with_reducible refine LeO.ite ?_ ?_)
      | (with_reducible refine LeO.bind ?_ (fun _ => ?_))
      | exact ih0 _ _ _ _ _ _ _ _ _ _ _ _
      | exact ih1 _ _ _ _ _ _ _ _ _
      | exact ih2 _ _ _
      | exact impl_UnliftSpace.mono _ _ _ _ _ _
      | exact laws_eqInt64S.mono _ _ _
      | exact laws_eqMatrix.mono _ _ _ _ _
      | exact laws_heldInt64S.mono _ _ _
      | exact laws_markInt64S.mono _ _ _
      | exact laws_markMatrix.mono _ _ _ _
      | exact laws_toMatrix.mono _ _ _
      | exact spec_UnliftSpace.mono _ _ _ _ _ _
      | exact LeO.none _
      | refine LeO.ite ?_ ?_
      | refine LeO.bind ?_ (fun _ => ?_)
    · intro y0 y1 y2 y3 y4 y5 y6 y7 y8
      unfold laws_FnExactUnliftSpace.j1
      repeat' first
      | (with_reducible exact ih0 _ _ _ _ _ _ _ _ _ _ _ _)
      | (with_reducible exact ih1 _ _ _ _ _ _ _ _ _)
      | (with_reducible exact ih2 _ _ _)
      | (with_reducible exact impl_UnliftSpace.mono _ _ _ _ _ _)
      | (with_reducible exact laws_eqInt64S.mono _ _ _)
      | (with_reducible exact laws_eqMatrix.mono _ _ _ _ _)
      | (with_reducible exact laws_heldInt64S.mono _ _ _)
      | (with_reducible exact laws_markInt64S.mono _ _ _)
      | (with_reducible exact laws_markMatrix.mono _ _ _ _)
      | (with_reducible exact laws_toMatrix.mono _ _ _)
      | (with_reducible exact spec_UnliftSpace.mono _ _ _ _ _ _)
      | (with_reducible exact LeO.refl _)
      | (with_reducible exact LeO.none _)
      | (with_reducible refine LeO.ite ?_ ?_)
      | (with_reducible refine LeO.bind ?_ (fun _ => ?_))
      | exact ih0 _ _ _ _ _ _ _ _ _ _ _ _
      | exact ih1 _ _ _ _ _ _ _ _ _
      | exact ih2 _ _ _
      | exact impl_UnliftSpace.mono _ _ _ _ _ _
      | exact laws_eqInt64S.mono _ _ _
      | exact laws_eqMatrix.mono _ _ _ _ _
      | exact laws_heldInt64S.mono _ _ _
      | exact laws_markInt64S.mono _ _ _
      | exact laws_markMatrix.mono _ _ _ _
      | exact laws_toMatrix.mono _ _ _
      | exact spec_UnliftSpace.mono _ _ _ _ _ _
      | exact LeO.none _
      | refine LeO.ite ?_ ?_
      | refine LeO.bind ?_ (fun _ => ?_)
    · intro y0 y1 y2
      unfold laws_FnExactUnliftSpace.j2
      repeat' first
      | (with_reducible exact ih0 _ _ _ _ _ _ _ _ _ _ _ _)
      | (with_reducible exact ih1 _ _ _ _ _ _ _ _ _)
      | (with_reducible exact ih2 _ _ _)
      | (with_reducible exact impl_UnliftSpace.mono _ _ _ _ _ _)
      | (with_reducible exact laws_eqInt64S.mono _ _ _)
      | (with_reducible exact laws_eqMatrix.mono _ _ _ _ _)
      | (with_reducible exact laws_heldInt64S.mono _ _ _)
      | (with_reducible exact laws_markInt64S.mono _ _ _)
      | (with_reducible exact laws_markMatrix.mono _ _ _ _)
      | (with_reducible exact laws_toMatrix.mono _ _ _)
      | (with_reducible exact spec_UnliftSpace.mono _ _ _ _ _ _)
      | (with_reducible exact LeO.refl _)
      | (with_reducible exact LeO.none _)
      | (with_reducible refine LeO.ite ?_ ?_)
      | (with_reducible refine LeO.bind ?_ (fun _ => ?_))
      | exact ih0 _ _ _ _ _ _ _ _ _ _ _ _
      | exact ih1 _ _ _ _ _ _ _ _ _
      | exact ih2 _ _ _
      | exact impl_UnliftSpace.mono _ _ _ _ _ _
      | exact laws_eqInt64S.mono _ _ _
      | exact laws_eqMatrix.mono _ _ _ _ _
      | exact laws_heldInt64S.mono _ _ _
      | exact laws_markInt64S.mono _ _ _
      | exact laws_markMatrix.mono _ _ _ _
      | exact laws_toMatrix.mono _ _ _
      | exact spec_UnliftSpace.mono _ _ _ _ _ _
      | exact LeO.none _
      | refine LeO.ite ?_ ?_
      | refine LeO.bind ?_ (fun _ => ?_)
theorem laws_FnExactUnliftSpace.mono : ∀ a0 a1 a2 a3 a4 k, LeO (laws_FnExactUnliftSpace.f k a0 a1 a2 a3 a4) (laws_FnExactUnliftSpace.f (k + 1) a0 a1 a2 a3 a4) := by
  intro a0 a1 a2 a3 a4 k
  obtain ⟨ih0, ih1, ih2⟩ := laws_FnExactUnliftSpace.mono_l k
  unfold laws_FnExactUnliftSpace.f
  repeat' first
      | (with_reducible exact ih0 _ _ _ _ _ _ _ _ _ _ _ _)
      | (with_reducible exact ih1 _ _ _ _ _ _ _ _ _)
      | (with_reducible exact ih2 _ _ _)
      | (with_reducible exact impl_UnliftSpace.mono _ _ _ _ _ _)
      | (with_reducible exact laws_eqInt64S.mono _ _ _)
      | (with_reducible exact laws_eqMatrix.mono _ _ _ _ _)
      | (with_reducible exact laws_heldInt64S.mono _ _ _)
      | (with_reducible exact laws_markInt64S.mono _ _ _)
      | (with_reducible exact laws_markMatrix.mono _ _ _ _)
      | (with_reducible exact laws_toMatrix.mono _ _ _)
      | (with_reducible exact spec_UnliftSpace.mono _ _ _ _ _ _)
      | (with_reducible exact LeO.refl _)
      | (with_reducible exact LeO.none _)
      | (with_reducible refine LeO.ite ?_ ?_)
      | (with_reducible refine LeO.bind ?_ (fun _ => ?_))
      | exact ih0 _ _ _ _ _ _ _ _ _ _ _ _
      | exact ih1 _ _ _ _ _ _ _ _ _
      | exact ih2 _ _ _
      | exact impl_UnliftSpace.mono _ _ _ _ _ _
      | exact laws_eqInt64S.mono _ _ _
      | exact laws_eqMatrix.mono _ _ _ _ _
      | exact laws_heldInt64S.mono _ _ _
      | exact laws_markInt64S.mono _ _ _
      | exact laws_markMatrix.mono _ _ _ _
      | exact laws_toMatrix.mono _ _ _
      | exact spec_UnliftSpace.mono _ _ _ _ _ _
      | exact LeO.none _
      | refine LeO.ite ?_ ?_
      | refine LeO.bind ?_ (fun _ => ?_)
def laws_FnExactUnliftSpace.T5 : Bool × List (List Nat × List Nat) := (true, [([], []), ([0], [0]), ([], []), ([], []), ([3, 1], [3]), ([1, 2, 4, 4], [1, 2, 4]), ([5], [5]), ([6], [6]), ([6], [6]), ([7, 5, 0, 1, 2, 3, 4, 5, 6, 7], [7]), ([8, 9, 0, 1, 2, 3, 4, 5, 6, 7, 8, 9], [8])])
def laws_FnExactUnliftSpace.B5 : List Nat := [0, 1, 0, 0, 11, 31, 63, 127, 127, 255, 1023]
theorem laws_FnExactUnliftSpace.tab5 : rtab .any (opsOf Try.f12 5) = laws_FnExactUnliftSpace.T5 := by kernel_rfl
theorem laws_FnExactUnliftSpace.bits5 : waitsOk laws_FnExactUnliftSpace.T5.2 laws_FnExactUnliftSpace.B5 = true := by kernel_rfl
def laws_FnExactUnliftSpace.T7 : Bool × List (List Nat × List Nat) := (true, [([], []), ([0], [0]), ([], []), ([], []), ([1, 2, 3, 1], [1, 2, 3]), ([4], [4]), ([5], [5]), ([5], [5]), ([6, 4, 0, 1, 2, 3, 4, 5, 6], [6]), ([7, 8, 0, 1, 2, 3, 4, 5, 6, 7, 8], [7])])
def laws_FnExactUnliftSpace.B7 : List Nat := [0, 1, 0, 0, 15, 31, 63, 63, 127, 511]
theorem laws_FnExactUnliftSpace.tab7 : rtab .any (opsOf Try.f12 7) = laws_FnExactUnliftSpace.T7 := by kernel_rfl
theorem laws_FnExactUnliftSpace.bits7 : waitsOk laws_FnExactUnliftSpace.T7.2 laws_FnExactUnliftSpace.B7 = true := by kernel_rfl
def laws_FnExactUnliftSpace.T24 : Bool × List (List Nat × List Nat) := (true, [([], []), ([0], [0]), ([], []), ([], []), ([3, 1], [3]), ([1, 2, 4, 4], [1, 2, 4]), ([5], [5]), ([6], [6]), ([6], [6]), ([7, 5, 0, 1, 2, 3, 4, 5, 6, 7], [7]), ([8, 9, 0, 1, 2, 3, 4, 5, 6, 7, 8, 9], [8])])
def laws_FnExactUnliftSpace.B24 : List Nat := [0, 1, 0, 0, 11, 31, 63, 127, 127, 255, 1023]
theorem laws_FnExactUnliftSpace.tab24 : rtab .any (opsOf Try.f12 24) = laws_FnExactUnliftSpace.T24 := by kernel_rfl
theorem laws_FnExactUnliftSpace.bits24 : waitsOk laws_FnExactUnliftSpace.T24.2 laws_FnExactUnliftSpace.B24 = true := by kernel_rfl
set_option maxHeartbeats 8000000 in
set_option maxRecDepth 100000 in
theorem laws_FnExactUnliftSpace.calls (k : Nat) (a0_0 : Int) (a0_1 : Int) (a1 : Int) (a2_0 : Int) (A2_1 : Option Addr) (c2_1 : Nat) (l2_1 : List Int) (r : Bool) (w : World) (hr2_1 : Kd.C (Kd.int .i64) w A2_1 l2_1.length l2_1) (hc2_1 : l2_1.length ≤ c2_1) (h : laws_FnExactUnliftSpace.f k a0_0 a0_1 a1 a2_0 l2_1 = some r) :
    Calls Try.prog 12 #[.agg #[.int .i64 a0_0, .int .i64 a0_1], .int .i64 a1, .agg #[.int .i64 a2_0, .slice A2_1 l2_1.length c2_1]] w fun e w' => e = .returned (.bool r) ∧ Below w.heap.size w w' := by
  have hu23 := Try.underlying23
  have hu54 := Try.underlying54
  have hu26 := Try.underlying26
  have HR2_1 := Aside0.mk hr2_1
  have HC2_1 := Aside0.mk hc2_1
  clear hr2_1 hc2_1
  have HB := Aside0.mk (Below.refl w.heap.size w)
  have H : ((laws_szMatrix.f a2_0 l2_1 1048576).bind fun t906 => (if t906 < 0 then (some true) else ((laws_toField.f a0_0 a0_1).bind fun bt907 => ((laws_toMatrix.f k a2_0 l2_1).bind fun bt909 => ((spec_UnliftSpace.f k bt907.1 bt907.2 a1 bt909.1 bt909.2).bind fun bt913 => ((laws_toMatrix.f k a2_0 l2_1).bind fun bt917 => ((laws_toField.f a0_0 a0_1).bind fun bt922 => ((impl_UnliftSpace.f k bt922.1 bt922.2 a1 bt917.1 bt917.2).bind fun bt924 => ((laws_eqInt64S.f k bt924.1 bt913.1).bind fun t928 => (if t928 = true then (laws_FnExactUnliftSpace.j0 k a1 bt913.1 bt913.2 bt924.1 bt924.2 (bt924.2 != bt913.2) a0_0 a0_1 a2_0 l2_1 bt917.1 bt917.2) else (laws_FnExactUnliftSpace.j0 k a1 bt913.1 bt913.2 bt924.1 bt924.2 true a0_0 a0_1 a2_0 l2_1 bt917.1 bt917.2))))))))))) = some r := h
  clear h
  replace H := Option.bind_eq_some_iff.mp H
  obtain ⟨t906, A40, H⟩ := H
  replace H : (if t906 < 0 then (some true) else ((laws_toField.f a0_0 a0_1).bind fun bt907 => ((laws_toMatrix.f k a2_0 l2_1).bind fun bt909 => ((spec_UnliftSpace.f k bt907.1 bt907.2 a1 bt909.1 bt909.2).bind fun bt913 => ((laws_toMatrix.f k a2_0 l2_1).bind fun bt917 => ((laws_toField.f a0_0 a0_1).bind fun bt922 => ((impl_UnliftSpace.f k bt922.1 bt922.2 a1 bt917.1 bt917.2).bind fun bt924 => ((laws_eqInt64S.f k bt924.1 bt913.1).bind fun t928 => (if t928 = true then (laws_FnExactUnliftSpace.j0 k a1 bt913.1 bt913.2 bt924.1 bt924.2 (bt924.2 != bt913.2) a0_0 a0_1 a2_0 l2_1 bt917.1 bt917.2) else (laws_FnExactUnliftSpace.j0 k a1 bt913.1 bt913.2 bt924.1 bt924.2 true a0_0 a0_1 a2_0 l2_1 bt917.1 bt917.2)))))))))) = some r := H
  have A4 := Aside0.mk A40
  clear A40
  by_cases c5 : t906 < 0
  · rw [if_pos c5] at H
    have c5b0 : decide (t906 < 0) = true := decide_eq_true c5
    clear c5
    obtain rfl := Option.some.inj H
    go_enter Try.func12, Try.ntmps12
    go_wp2_with (first | ((with_reducible refine gate_dst (N := 3) rfl ?_); refine box_event ?hg (N := 3) ?hd (cs := #[.int .i64 a0_0, .int .i64 a0_1]) (t := 23) ?hr ?_; (case hd => rfl); (case hg => rfl); (case hr => first | (go_simp; done) | (go_simp; rfl)); intro gb904 hg w6 hbox hb; have n0_ := Aside0.mk (below_step (by repeat (first | (with_reducible first | exact HB.out | apply below_alloc | apply pw_below_drewN | apply below_drew1) | exact HB.out)) hb); have n1_ := Aside0.mk (hbox); have n2_ := Aside0.mk ((by rw [hg]; exact (below_size (by repeat (first | (with_reducible first | exact HB.out | apply below_alloc | apply pw_below_drewN | apply below_drew1) | exact HB.out))) : w.heap.size ≤ gb904)); have n3_ := Aside0.mk ((by rw [hg]; exact (below_size (by repeat (first | (with_reducible first | exact HB.out | apply below_alloc | apply pw_below_drewN | apply below_drew1) | exact HB.out))) : w.heap.size ≤ gb904)); clear HB; have HB := n0_; have BK904 := n1_; have GW904 := n2_; have GE904 := n3_; clear n0_ n1_ n2_ n3_; clear hb hbox hg) | ((with_reducible refine gate_dst (N := 5) rfl ?_); refine box_event ?hg (N := 5) ?hd (cs := #[.int .i64 a2_0, .slice A2_1 l2_1.length c2_1]) (t := 54) ?hr ?_; (case hd => rfl); (case hg => rfl); (case hr => first | (go_simp; done) | (go_simp; rfl)); intro gb905 hg w7 hbox hb; have n0_ := Aside0.mk (blk_below (g := gb904) (o := .cells #[.int .i64 a0_0, .int .i64 a0_1] 23 (0, 0)) (by (with_reducible repeat (first | refine blk_drewN ?_ _ | refine blk_drew ?_ | refine blk_alloc ?_ _)); exact BK904.out) hb); have n1_ := Aside0.mk (below_step (by repeat (first | (with_reducible first | exact HB.out | apply below_alloc | apply pw_below_drewN | apply below_drew1 | refine below_set ?_ GE904.out) | exact HB.out)) hb); have n2_ := Aside0.mk (hbox); have n3_ := Aside0.mk ((by rw [hg]; exact (below_size (by repeat (first | (with_reducible first | exact HB.out | apply below_alloc | apply pw_below_drewN | apply below_drew1 | refine below_set ?_ GE904.out) | exact HB.out))) : w.heap.size ≤ gb905)); have n4_ := Aside0.mk ((by rw [hg]; exact (below_size (by repeat (first | (with_reducible first | exact HB.out | apply below_alloc | apply pw_below_drewN | apply below_drew1 | refine below_set ?_ GE904.out) | exact HB.out))) : w.heap.size ≤ gb905)); have n5_ := Aside0.mk ((by rw [hg]; exact Nat.ne_of_lt (blk_lt (g := gb904) (o := .cells #[.int .i64 a0_0, .int .i64 a0_1] 23 (0, 0)) (by (with_reducible repeat (first | refine blk_drewN ?_ _ | refine blk_drew ?_ | refine blk_alloc ?_ _)); exact BK904.out)) : gb904 ≠ gb905)); have n6_ := Aside0.mk ((by rw [hg]; exact Nat.ne_of_gt (blk_lt (g := gb904) (o := .cells #[.int .i64 a0_0, .int .i64 a0_1] 23 (0, 0)) (by (with_reducible repeat (first | refine blk_drewN ?_ _ | refine blk_drew ?_ | refine blk_alloc ?_ _)); exact BK904.out)) : gb905 ≠ gb904)); clear BK904; clear HB; have BK904 := n0_; have HB := n1_; have BK905 := n2_; have GW905 := n3_; have GE905 := n4_; have NB904_905 := n5_; have NB905_904 := n6_; clear n0_ n1_ n2_ n3_ n4_ n5_ n6_; clear hb hbox hg; have hnb8 := NB905_904.out; have hnc8 := NB904_905.out; have hcz9_0 : w7.cell? ⟨gb905, 0, none⟩ = some (.int .i64 a2_0) := (blk_cell BK905.out 0).trans rfl; have hcz9_1 : w7.cell? ⟨gb905, 1, none⟩ = some (.slice A2_1 l2_1.length c2_1) := (blk_cell BK905.out 1).trans rfl; have hfz9_0 := blk_frozen BK905.out 0; have hfz9_1 := blk_frozen BK905.out 1) | ((with_reducible refine gate_callee (f := 46) rfl ?_); refine goesL_ (some 20) rfl rfl Try.func46 (by kernel_rfl) rfl #[.agg #[.int .i64 a2_0, .slice A2_1 l2_1.length c2_1], .int .i64 1048576] rfl (by (try simp only [List.map_toArray, List.map_cons, List.map_nil]); first | done | rfl | (simp only [List.length_drop, List.length_take]; rfl)) ?_; (with_reducible refine (laws_szMatrix.calls a2_0 _ _ l2_1 1048576 t906 _ ?side1 ?side2 A4.out).mono ?_); (case side1 => repeat (first | exact (Kd.C_below HR2_1.out HB.out) | (with_reducible refine Kd.C_alloc ?_ _) | (with_reducible refine Kd.C_drewN ?_ _) | (with_reducible refine Kd.C_drew ?_))); (case side2 => exact HC2_1.out); rintro e w10 ⟨rfl, hb⟩; refine ⟨_, rfl, ?_⟩; have n0_ := Aside0.mk (blk_below (g := gb904) (o := .cells #[.int .i64 a0_0, .int .i64 a0_1] 23 (0, 0)) (by (with_reducible repeat (first | refine blk_drewN ?_ _ | refine blk_drew ?_ | refine blk_alloc ?_ _)); exact BK904.out) hb); have n1_ := Aside0.mk (blk_below (g := gb905) (o := .cells #[.int .i64 a2_0, .slice A2_1 l2_1.length c2_1] 54 (0, 0)) (by (with_reducible repeat (first | refine blk_drewN ?_ _ | refine blk_drew ?_ | refine blk_alloc ?_ _)); exact BK905.out) hb); have n2_ := Aside0.mk (below_step (by repeat (first | (with_reducible first | exact HB.out | apply below_alloc | apply pw_below_drewN | apply below_drew1 | refine below_set ?_ GE904.out | refine below_set ?_ GE905.out) | exact HB.out)) hb); clear BK904; clear BK905; clear HB; have BK904 := n0_; have BK905 := n1_; have HB := n2_; clear n0_ n1_ n2_; (try clear hb); (try clear hb2); (try clear hk); (try clear hi)))
    go_ret
    exact ⟨by first | rfl | (simp [errW_none, errW_some] <;> rfl) | (simp [*, errW_none, errW_some] <;> rfl), by repeat (first | (with_reducible first | exact HB.out | apply below_alloc | apply pw_below_drewN | apply below_drew1 | refine below_set ?_ GE904.out | refine below_set ?_ GE905.out) | exact HB.out)⟩
  · rw [if_neg c5] at H
    have c5b0 : decide (t906 < 0) = false := decide_eq_false c5
    clear c5
    replace H := Option.bind_eq_some_iff.mp H
    obtain ⟨⟨t907, t908⟩, A110, H⟩ := H
    replace H : ((laws_toMatrix.f k a2_0 l2_1).bind fun bt909 => ((spec_UnliftSpace.f k t907 t908 a1 bt909.1 bt909.2).bind fun bt913 => ((laws_toMatrix.f k a2_0 l2_1).bind fun bt917 => ((laws_toField.f a0_0 a0_1).bind fun bt922 => ((impl_UnliftSpace.f k bt922.1 bt922.2 a1 bt917.1 bt917.2).bind fun bt924 => ((laws_eqInt64S.f k bt924.1 bt913.1).bind fun t928 => (if t928 = true then (laws_FnExactUnliftSpace.j0 k a1 bt913.1 bt913.2 bt924.1 bt924.2 (bt924.2 != bt913.2) a0_0 a0_1 a2_0 l2_1 bt917.1 bt917.2) else (laws_FnExactUnliftSpace.j0 k a1 bt913.1 bt913.2 bt924.1 bt924.2 true a0_0 a0_1 a2_0 l2_1 bt917.1 bt917.2)))))))) = some r := H
    have A11 := Aside0.mk A110
    clear A110
    replace H := Option.bind_eq_some_iff.mp H
    obtain ⟨⟨t909, t910⟩, A120, H⟩ := H
    replace H : ((spec_UnliftSpace.f k t907 t908 a1 t909 t910).bind fun bt913 => ((laws_toMatrix.f k a2_0 l2_1).bind fun bt917 => ((laws_toField.f a0_0 a0_1).bind fun bt922 => ((impl_UnliftSpace.f k bt922.1 bt922.2 a1 bt917.1 bt917.2).bind fun bt924 => ((laws_eqInt64S.f k bt924.1 bt913.1).bind fun t928 => (if t928 = true then (laws_FnExactUnliftSpace.j0 k a1 bt913.1 bt913.2 bt924.1 bt924.2 (bt924.2 != bt913.2) a0_0 a0_1 a2_0 l2_1 bt917.1 bt917.2) else (laws_FnExactUnliftSpace.j0 k a1 bt913.1 bt913.2 bt924.1 bt924.2 true a0_0 a0_1 a2_0 l2_1 bt917.1 bt917.2))))))) = some r := H
    have A12 := Aside0.mk A120
    clear A120
    replace H := Option.bind_eq_some_iff.mp H
    obtain ⟨⟨t913, t916⟩, A130, H⟩ := H
    replace H : ((laws_toMatrix.f k a2_0 l2_1).bind fun bt917 => ((laws_toField.f a0_0 a0_1).bind fun bt922 => ((impl_UnliftSpace.f k bt922.1 bt922.2 a1 bt917.1 bt917.2).bind fun bt924 => ((laws_eqInt64S.f k bt924.1 t913).bind fun t928 => (if t928 = true then (laws_FnExactUnliftSpace.j0 k a1 t913 t916 bt924.1 bt924.2 (bt924.2 != t916) a0_0 a0_1 a2_0 l2_1 bt917.1 bt917.2) else (laws_FnExactUnliftSpace.j0 k a1 t913 t916 bt924.1 bt924.2 true a0_0 a0_1 a2_0 l2_1 bt917.1 bt917.2)))))) = some r := H
    have A13 := Aside0.mk A130
    clear A130
    replace H := Option.bind_eq_some_iff.mp H
    obtain ⟨⟨t917, t918⟩, A140, H⟩ := H
    replace H : ((laws_toField.f a0_0 a0_1).bind fun bt922 => ((impl_UnliftSpace.f k bt922.1 bt922.2 a1 t917 t918).bind fun bt924 => ((laws_eqInt64S.f k bt924.1 t913).bind fun t928 => (if t928 = true then (laws_FnExactUnliftSpace.j0 k a1 t913 t916 bt924.1 bt924.2 (bt924.2 != t916) a0_0 a0_1 a2_0 l2_1 t917 t918) else (laws_FnExactUnliftSpace.j0 k a1 t913 t916 bt924.1 bt924.2 true a0_0 a0_1 a2_0 l2_1 t917 t918))))) = some r := H
    have A14 := Aside0.mk A140
    clear A140
    replace H := Option.bind_eq_some_iff.mp H
    obtain ⟨⟨t922, t923⟩, A150, H⟩ := H
    replace H : ((impl_UnliftSpace.f k t922 t923 a1 t917 t918).bind fun bt924 => ((laws_eqInt64S.f k bt924.1 t913).bind fun t928 => (if t928 = true then (laws_FnExactUnliftSpace.j0 k a1 t913 t916 bt924.1 bt924.2 (bt924.2 != t916) a0_0 a0_1 a2_0 l2_1 t917 t918) else (laws_FnExactUnliftSpace.j0 k a1 t913 t916 bt924.1 bt924.2 true a0_0 a0_1 a2_0 l2_1 t917 t918)))) = some r := H
    have A15 := Aside0.mk A150
    clear A150
    replace H := Option.bind_eq_some_iff.mp H
    obtain ⟨⟨t924, t927⟩, A160, H⟩ := H
    replace H : ((laws_eqInt64S.f k t924 t913).bind fun t928 => (if t928 = true then (laws_FnExactUnliftSpace.j0 k a1 t913 t916 t924 t927 (t927 != t916) a0_0 a0_1 a2_0 l2_1 t917 t918) else (laws_FnExactUnliftSpace.j0 k a1 t913 t916 t924 t927 true a0_0 a0_1 a2_0 l2_1 t917 t918))) = some r := H
    have A16 := Aside0.mk A160
    clear A160
    have HC17 := Aside0.mk H
    clear H
    go_enter Try.func12, Try.ntmps12
    try go_wp2_with (first | ((with_reducible refine gate_dst (N := 3) rfl ?_); refine box_event ?hg (N := 3) ?hd (cs := #[.int .i64 a0_0, .int .i64 a0_1]) (t := 23) ?hr ?_; (case hd => rfl); (case hg => rfl); (case hr => first | (go_simp; done) | (go_simp; rfl)); intro gb904 hg w18 hbox hb; have n0_ := Aside0.mk (below_step (by repeat (first | (with_reducible first | exact HB.out | apply below_alloc | apply pw_below_drewN | apply below_drew1) | exact HB.out)) hb); have n1_ := Aside0.mk (hbox); have n2_ := Aside0.mk ((by rw [hg]; exact (below_size (by repeat (first | (with_reducible first | exact HB.out | apply below_alloc | apply pw_below_drewN | apply below_drew1) | exact HB.out))) : w.heap.size ≤ gb904)); have n3_ := Aside0.mk ((by rw [hg]; exact (below_size (by repeat (first | (with_reducible first | exact HB.out | apply below_alloc | apply pw_below_drewN | apply below_drew1) | exact HB.out))) : w.heap.size ≤ gb904)); clear HB; have HB := n0_; have BK904 := n1_; have GW904 := n2_; have GE904 := n3_; clear n0_ n1_ n2_ n3_; clear hb hbox hg) | ((with_reducible refine gate_dst (N := 5) rfl ?_); refine box_event ?hg (N := 5) ?hd (cs := #[.int .i64 a2_0, .slice A2_1 l2_1.length c2_1]) (t := 54) ?hr ?_; (case hd => rfl); (case hg => rfl); (case hr => first | (go_simp; done) | (go_simp; rfl)); intro gb905 hg w19 hbox hb; have n0_ := Aside0.mk (blk_below (g := gb904) (o := .cells #[.int .i64 a0_0, .int .i64 a0_1] 23 (0, 0)) (by (with_reducible repeat (first | refine blk_drewN ?_ _ | refine blk_drew ?_ | refine blk_alloc ?_ _)); exact BK904.out) hb); have n1_ := Aside0.mk (below_step (by repeat (first | (with_reducible first | exact HB.out | apply below_alloc | apply pw_below_drewN | apply below_drew1 | refine below_set ?_ GE904.out) | exact HB.out)) hb); have n2_ := Aside0.mk (hbox); have n3_ := Aside0.mk ((by rw [hg]; exact (below_size (by repeat (first | (with_reducible first | exact HB.out | apply below_alloc | apply pw_below_drewN | apply below_drew1 | refine below_set ?_ GE904.out) | exact HB.out))) : w.heap.size ≤ gb905)); have n4_ := Aside0.mk ((by rw [hg]; exact (below_size (by repeat (first | (with_reducible first | exact HB.out | apply below_alloc | apply pw_below_drewN | apply below_drew1 | refine below_set ?_ GE904.out) | exact HB.out))) : w.heap.size ≤ gb905)); have n5_ := Aside0.mk ((by rw [hg]; exact Nat.ne_of_lt (blk_lt (g := gb904) (o := .cells #[.int .i64 a0_0, .int .i64 a0_1] 23 (0, 0)) (by (with_reducible repeat (first | refine blk_drewN ?_ _ | refine blk_drew ?_ | refine blk_alloc ?_ _)); exact BK904.out)) : gb904 ≠ gb905)); have n6_ := Aside0.mk ((by rw [hg]; exact Nat.ne_of_gt (blk_lt (g := gb904) (o := .cells #[.int .i64 a0_0, .int .i64 a0_1] 23 (0, 0)) (by (with_reducible repeat (first | refine blk_drewN ?_ _ | refine blk_drew ?_ | refine blk_alloc ?_ _)); exact BK904.out)) : gb905 ≠ gb904)); clear BK904; clear HB; have BK904 := n0_; have HB := n1_; have BK905 := n2_; have GW905 := n3_; have GE905 := n4_; have NB904_905 := n5_; have NB905_904 := n6_; clear n0_ n1_ n2_ n3_ n4_ n5_ n6_; clear hb hbox hg; have hnb20 := NB905_904.out; have hnc20 := NB904_905.out; have hcz21_0 : w19.cell? ⟨gb905, 0, none⟩ = some (.int .i64 a2_0) := (blk_cell BK905.out 0).trans rfl; have hcz21_1 : w19.cell? ⟨gb905, 1, none⟩ = some (.slice A2_1 l2_1.length c2_1) := (blk_cell BK905.out 1).trans rfl; have hfz21_0 := blk_frozen BK905.out 0; have hfz21_1 := blk_frozen BK905.out 1) | ((with_reducible refine gate_callee (f := 46) rfl ?_); refine goesL_ (some 20) rfl rfl Try.func46 (by kernel_rfl) rfl #[.agg #[.int .i64 a2_0, .slice A2_1 l2_1.length c2_1], .int .i64 1048576] rfl (by (try simp only [List.map_toArray, List.map_cons, List.map_nil]); first | done | rfl | (simp only [List.length_drop, List.length_take]; rfl)) ?_; (with_reducible refine (laws_szMatrix.calls a2_0 _ _ l2_1 1048576 t906 _ ?side1 ?side2 A4.out).mono ?_); (case side1 => repeat (first | exact (Kd.C_below HR2_1.out HB.out) | (with_reducible refine Kd.C_alloc ?_ _) | (with_reducible refine Kd.C_drewN ?_ _) | (with_reducible refine Kd.C_drew ?_))); (case side2 => exact HC2_1.out); rintro e w22 ⟨rfl, hb⟩; refine ⟨_, rfl, ?_⟩; have n0_ := Aside0.mk (blk_below (g := gb904) (o := .cells #[.int .i64 a0_0, .int .i64 a0_1] 23 (0, 0)) (by (with_reducible repeat (first | refine blk_drewN ?_ _ | refine blk_drew ?_ | refine blk_alloc ?_ _)); exact BK904.out) hb); have n1_ := Aside0.mk (blk_below (g := gb905) (o := .cells #[.int .i64 a2_0, .slice A2_1 l2_1.length c2_1] 54 (0, 0)) (by (with_reducible repeat (first | refine blk_drewN ?_ _ | refine blk_drew ?_ | refine blk_alloc ?_ _)); exact BK905.out) hb); have n2_ := Aside0.mk (below_step (by repeat (first | (with_reducible first | exact HB.out | apply below_alloc | apply pw_below_drewN | apply below_drew1 | refine below_set ?_ GE904.out | refine below_set ?_ GE905.out) | exact HB.out)) hb); clear BK904; clear BK905; clear HB; have BK904 := n0_; have BK905 := n1_; have HB := n2_; clear n0_ n1_ n2_; (try clear hb); (try clear hb2); (try clear hk); (try clear hi)))
    have n0_ := Aside0.mk (blk_drew BK904.out)
    have n1_ := Aside0.mk (blk_drew BK905.out)
    have n2_ := Aside0.mk (below_drew1 HB.out)
    clear BK904
    clear BK905
    clear HB
    have BK904 := n0_
    have BK905 := n1_
    have HB := n2_
    clear n0_ n1_ n2_
    refine start_ (n := 11) (S := fun w' => w'.cell? ⟨gb904, 0, none⟩ = some (.int .i64 a0_0) ∧ w'.cell? ⟨gb904, 1, none⟩ = some (.int .i64 a0_1) ∧ w'.cell? ⟨gb905, 0, none⟩ = some (.int .i64 a2_0) ∧ w'.cell? ⟨gb905, 1, none⟩ = some (.slice A2_1 l2_1.length c2_1)) (ds := []) #[false, false, false, false, false, false, false, false, false, false, false] (by kernel_rfl) rfl rfl ⟨(blk_cell BK904.out 0).trans rfl, (blk_cell BK904.out 1).trans rfl, (blk_cell BK905.out 0).trans rfl, (blk_cell BK905.out 1).trans rfl⟩ (fun hHeld => ?_); refine with_tabW laws_FnExactUnliftSpace.tab5 laws_FnExactUnliftSpace.bits5 (fun HT_ HW_ => ?_)
    generalize w22.drew = w23 at BK904 BK905 HB hHeld ⊢
    refine pure_ (i := 2) (N := some 26) (v := ?_) (a' := ?_) #[false, false, true, false, false, false, false, false, false, false, false] rfl rfl (any_of HT_.out (by kernel_rfl)) (fun _ _ _ h => h) (Or.inl ⟨by rfl, ?_⟩) ?_ ?_
    rotate_left
    · intro w'
      go_simp
      with_reducible rfl
    rotate_left
    · simp only [Act.put, List.setIfInBounds_toArray, List.set_cons_zero, List.set_cons_succ, i64_w, i32_w]
      rfl
    refine take_ (i := 0) (N := some 24) (v := ?_) (a' := ?_) #[true, false, true, false, false, false, false, false, false, false, false] rfl rfl (take_ofW HT_.out HW_.out (by kernel_rfl)) (fun _ _ _ h => h) (Or.inl ⟨by rfl, ?_⟩) hHeld ?_ ?_
    rotate_left
    · rintro w' ⟨s0, s1, s2, s3⟩
      go_simp
      with_reducible rfl
    rotate_left
    · simp only [Act.put, List.setIfInBounds_toArray, List.set_cons_zero, List.set_cons_succ, i64_w, i32_w]
      rfl
    refine take_ (i := 3) (N := some 27) (v := ?_) (a' := ?_) #[true, false, true, true, false, false, false, false, false, false, false] rfl rfl (take_ofW HT_.out HW_.out (by kernel_rfl)) (fun _ _ _ h => h) (Or.inl ⟨by rfl, ?_⟩) hHeld ?_ ?_
    rotate_left
    · rintro w' ⟨s0, s1, s2, s3⟩
      go_simp
      with_reducible rfl
    rotate_left
    · simp only [Act.put, List.setIfInBounds_toArray, List.set_cons_zero, List.set_cons_succ, i64_w, i32_w]
      rfl
    refine one_ (i := 1) (N := some 25) #[true, true, true, true, false, false, false, false, false, false, false] rfl rfl (one_of HT_.out (by kernel_rfl)) (by decide) (fun K hK => ?_)
    refine goes_ Try.func18 (by kernel_rfl) rfl #[.agg #[.int .i64 a0_0, .int .i64 a0_1]] (by rfl) rfl rfl (by (try simp only [List.map_toArray, List.map_cons, List.map_nil]); first | done | rfl | (simp only [List.length_drop, List.length_take]; rfl)) ?_
    with_reducible refine (laws_toField.calls a0_0 a0_1 t907 t908 _ A11.out).mono ?_
    rintro e w24 ⟨rfl, hb⟩
    refine ⟨_, rfl, ?_⟩
    have n0_ := Aside0.mk (blk_below (g := gb904) (o := .cells #[.int .i64 a0_0, .int .i64 a0_1] 23 (0, 0)) (by (with_reducible repeat (first | refine blk_drewN ?_ _ | refine blk_drew ?_ | refine blk_alloc ?_ _)); exact BK904.out) hb)
    have n1_ := Aside0.mk (blk_below (g := gb905) (o := .cells #[.int .i64 a2_0, .slice A2_1 l2_1.length c2_1] 54 (0, 0)) (by (with_reducible repeat (first | refine blk_drewN ?_ _ | refine blk_drew ?_ | refine blk_alloc ?_ _)); exact BK905.out) hb)
    have n2_ := Aside0.mk (below_step (by repeat (first | (with_reducible first | exact HB.out | apply below_alloc | apply pw_below_drewN | apply below_drew1 | refine below_set ?_ GE904.out | refine below_set ?_ GE905.out) | exact HB.out)) hb)
    clear BK904
    clear BK905
    clear HB
    have BK904 := n0_
    have BK905 := n1_
    have HB := n2_
    clear n0_ n1_ n2_
    (try clear hb)
    (try clear hb2)
    (try clear hk)
    (try clear hi)
    refine hK.out _ _ ⟨(blk_cell BK904.out 0).trans rfl, (blk_cell BK904.out 1).trans rfl, (blk_cell BK905.out 0).trans rfl, (blk_cell BK905.out 1).trans rfl⟩ (fun hHeld => ?_)
    clear hK K
    refine norm_ (a' := ?_) ?_ ?_
    rotate_left
    · show Act.put _ (some 25) _ = _
      simp only [Act.put, List.setIfInBounds_toArray, List.set_cons_zero, List.set_cons_succ, i64_w, i32_w]
      rfl
    refine one_ (i := 4) (N := some 28) #[true, true, true, true, true, false, false, false, false, false, false] rfl rfl (one_of HT_.out (by kernel_rfl)) (by decide) (fun K hK => ?_)
    refine goes_ Try.func48 (by kernel_rfl) rfl #[.agg #[.int .i64 a2_0, .slice A2_1 l2_1.length c2_1]] (by rfl) rfl rfl (by (try simp only [List.map_toArray, List.map_cons, List.map_nil]); first | done | rfl | (simp only [List.length_drop, List.length_take]; rfl)) ?_
    with_reducible refine (laws_toMatrix.calls k a2_0 _ _ l2_1 t909 t910 _ ?side1 ?side2 A12.out).mono ?_
    (case side1 => repeat (first | exact (Kd.C_below HR2_1.out HB.out) | (with_reducible refine Kd.C_alloc ?_ _) | (with_reducible refine Kd.C_drewN ?_ _) | (with_reducible refine Kd.C_drew ?_)))
    (case side2 => exact HC2_1.out)
    rintro e w25 ⟨v911, rfl, ho0, hb⟩
    refine ⟨_, rfl, ?_⟩
    have n0_ := Aside0.mk (Kd.R_lower ho0 (below_size (by repeat (first | (with_reducible first | exact HB.out | apply below_alloc | apply pw_below_drewN | apply below_drew1 | refine below_set ?_ GE904.out | refine below_set ?_ GE905.out) | exact HB.out))))
    have n1_ := Aside0.mk (blk_below (g := gb904) (o := .cells #[.int .i64 a0_0, .int .i64 a0_1] 23 (0, 0)) (by (with_reducible repeat (first | refine blk_drewN ?_ _ | refine blk_drew ?_ | refine blk_alloc ?_ _)); exact BK904.out) hb)
    have n2_ := Aside0.mk (blk_below (g := gb905) (o := .cells #[.int .i64 a2_0, .slice A2_1 l2_1.length c2_1] 54 (0, 0)) (by (with_reducible repeat (first | refine blk_drewN ?_ _ | refine blk_drew ?_ | refine blk_alloc ?_ _)); exact BK905.out) hb)
    have n3_ := Aside0.mk (below_step (by repeat (first | (with_reducible first | exact HB.out | apply below_alloc | apply pw_below_drewN | apply below_drew1 | refine below_set ?_ GE904.out | refine below_set ?_ GE905.out) | exact HB.out)) hb)
    clear BK904
    clear BK905
    clear HB
    have HO912 := n0_
    have BK904 := n1_
    have BK905 := n2_
    have HB := n3_
    clear n0_ n1_ n2_ n3_
    (try clear hb)
    (try clear hb2)
    (try clear hk)
    (try clear hi)
    (try clear ho0)
    obtain ⟨Ao26, co26, eo26⟩ := Kd.R_slice HO912.out
    (first | subst eo26 | (injection eo26 with f1_ f2_ f3_; have f4_ := f1_.symm; have f5_ := f3_.symm; clear f1_ f2_ f3_; subst f4_; subst f5_))
    refine hK.out _ _ ⟨(blk_cell BK904.out 0).trans rfl, (blk_cell BK904.out 1).trans rfl, (blk_cell BK905.out 0).trans rfl, (blk_cell BK905.out 1).trans rfl⟩ (fun hHeld => ?_)
    clear hK K
    refine norm_ (a' := ?_) ?_ ?_
    rotate_left
    · show Act.put _ (some 28) _ = _
      simp only [Act.put, List.setIfInBounds_toArray, List.set_cons_zero, List.set_cons_succ, i64_w, i32_w]
      rfl
    refine one_ (i := 5) (N := some 29) #[true, true, true, true, true, true, false, false, false, false, false] rfl rfl (one_of HT_.out (by kernel_rfl)) (by decide) (fun K hK => ?_)
    refine goes_ Try.func47 (by kernel_rfl) rfl #[.agg #[.int .i64 t907, .int .i64 t908], .int .i64 a1, .agg #[.int .i64 t909, .slice Ao26 t910.length co26]] (by rfl) rfl rfl (by (try simp only [List.map_toArray, List.map_cons, List.map_nil]); first | done | rfl | (simp only [List.length_drop, List.length_take]; rfl)) ?_
    with_reducible refine (spec_UnliftSpace.calls k t907 t908 a1 t909 _ _ t910 t913 t916 _ ?side1 ?side2 A13.out).mono ?_
    (case side1 => repeat (first | exact (Kd.R_reads' HO912.out).2.2 | (with_reducible refine Kd.C_alloc ?_ _) | (with_reducible refine Kd.C_drewN ?_ _) | (with_reducible refine Kd.C_drew ?_)))
    (case side2 => exact (Kd.R_reads' HO912.out).2.1)
    rintro e w27 ⟨v914, rfl, ho0, hb⟩
    refine ⟨_, rfl, ?_⟩
    have n0_ := Aside0.mk (Kd.R_elder' (by (with_reducible repeat (first | apply Kd.R_alloc | apply Kd.R_drewN | apply Kd.R_drew)); exact HO912.out) (Kd.R_base ho0) hb)
    have n1_ := Aside0.mk (Kd.R_lower (Kd.R_new' ho0 (Kd.R_lt (by (with_reducible repeat (first | apply Kd.R_alloc | apply Kd.R_drewN | apply Kd.R_drew)); exact HO912.out))) (below_size (by repeat (first | (with_reducible first | exact HB.out | apply below_alloc | apply pw_below_drewN | apply below_drew1 | refine below_set ?_ GE904.out | refine below_set ?_ GE905.out) | exact HB.out))))
    have n2_ := Aside0.mk (blk_below (g := gb904) (o := .cells #[.int .i64 a0_0, .int .i64 a0_1] 23 (0, 0)) (by (with_reducible repeat (first | refine blk_drewN ?_ _ | refine blk_drew ?_ | refine blk_alloc ?_ _)); exact BK904.out) hb)
    have n3_ := Aside0.mk (blk_below (g := gb905) (o := .cells #[.int .i64 a2_0, .slice A2_1 l2_1.length c2_1] 54 (0, 0)) (by (with_reducible repeat (first | refine blk_drewN ?_ _ | refine blk_drew ?_ | refine blk_alloc ?_ _)); exact BK905.out) hb)
    have n4_ := Aside0.mk (below_step (by repeat (first | (with_reducible first | exact HB.out | apply below_alloc | apply pw_below_drewN | apply below_drew1 | refine below_set ?_ GE904.out | refine below_set ?_ GE905.out) | exact HB.out)) hb)
    clear HO912
    clear BK904
    clear BK905
    clear HB
    have HO912 := n0_
    have HO915 := n1_
    have BK904 := n2_
    have BK905 := n3_
    have HB := n4_
    clear n0_ n1_ n2_ n3_ n4_
    (try clear hb)
    (try clear hb2)
    (try clear hk)
    (try clear hi)
    (try clear ho0)
    refine hK.out _ _ ⟨(blk_cell BK904.out 0).trans rfl, (blk_cell BK904.out 1).trans rfl, (blk_cell BK905.out 0).trans rfl, (blk_cell BK905.out 1).trans rfl⟩ (fun hHeld => ?_)
    clear hK K
    refine norm_ (a' := ?_) ?_ ?_
    rotate_left
    · show Act.put _ (some 29) _ = _
      simp only [Act.put, List.setIfInBounds_toArray, List.set_cons_zero, List.set_cons_succ, i64_w, i32_w]
      rfl
    refine pure_ (i := 6) (N := some 23) (v := ?_) (a' := ?_) #[true, true, true, true, true, true, true, false, false, false, false] rfl rfl (any_of HT_.out (by kernel_rfl)) (fun _ _ _ h => h) (Or.inl ⟨by rfl, ?_⟩) ?_ ?_
    rotate_left
    · intro w'
      go_simp
      with_reducible rfl
    rotate_left
    · simp only [Act.put, List.setIfInBounds_toArray, List.set_cons_zero, List.set_cons_succ, i64_w, i32_w]
      rfl
    refine pure_ (i := 7) (N := some 30) (v := ?_) (a' := ?_) #[true, true, true, true, true, true, true, true, false, false, false] rfl rfl (any_of HT_.out (by kernel_rfl)) (fun _ _ _ h => h) (Or.inl ⟨by rfl, ?_⟩) ?_ ?_
    rotate_left
    · intro w'
      go_simp
      with_reducible rfl
    rotate_left
    · simp only [Act.put, List.setIfInBounds_toArray, List.set_cons_zero, List.set_cons_succ, i64_w, i32_w]
      rfl
    refine pure_ (i := 8) (N := some 31) (v := ?_) (a' := ?_) #[true, true, true, true, true, true, true, true, true, false, false] rfl rfl (any_of HT_.out (by kernel_rfl)) (fun _ _ _ h => h) (Or.inl ⟨by rfl, ?_⟩) ?_ ?_
    rotate_left
    · intro w'
      go_simp
      with_reducible rfl
    rotate_left
    · simp only [Act.put, List.setIfInBounds_toArray, List.set_cons_zero, List.set_cons_succ, i64_w, i32_w]
      rfl
    refine pure_ (i := 9) (N := some 8) (v := ?_) (a' := ?_) #[true, true, true, true, true, true, true, true, true, true, false] rfl rfl (any_of HT_.out (by kernel_rfl)) (fun _ _ _ h => h) (Or.inl ⟨by rfl, ?_⟩) ?_ ?_
    rotate_left
    · intro w'
      go_simp
      with_reducible rfl
    rotate_left
    · simp only [Act.put, List.setIfInBounds_toArray, List.set_cons_zero, List.set_cons_succ, i64_w, i32_w]
      rfl
    refine pure_ (i := 10) (N := some 9) (v := ?_) (a' := ?_) #[true, true, true, true, true, true, true, true, true, true, true] rfl rfl (any_of HT_.out (by kernel_rfl)) (fun _ _ _ h => h) (Or.inl ⟨by rfl, ?_⟩) ?_ ?_
    rotate_left
    · intro w'
      go_simp
      with_reducible rfl
    rotate_left
    · simp only [Act.put, List.setIfInBounds_toArray, List.set_cons_zero, List.set_cons_succ, i64_w, i32_w]
      rfl
    refine done_ (done_of HT_.out (by kernel_rfl)) ?_
    have hcz28_0 : w27.cell? ⟨gb905, 0, none⟩ = some (.int .i64 a2_0) := (blk_cell BK905.out 0).trans rfl
    have hcz28_1 : w27.cell? ⟨gb905, 1, none⟩ = some (.slice A2_1 l2_1.length c2_1) := (blk_cell BK905.out 1).trans rfl
    have hfz28_0 := blk_frozen BK905.out 0
    have hfz28_1 := blk_frozen BK905.out 1
    try go_wp2_with (first | ((with_reducible refine gate_callee (f := 48) rfl ?_); refine goesL_ (some 33) rfl rfl Try.func48 (by kernel_rfl) rfl #[.agg #[.int .i64 a2_0, .slice A2_1 l2_1.length c2_1]] rfl (by (try simp only [List.map_toArray, List.map_cons, List.map_nil]); first | done | rfl | (simp only [List.length_drop, List.length_take]; rfl)) ?_; (with_reducible refine (laws_toMatrix.calls k a2_0 _ _ l2_1 t917 t918 _ ?side1 ?side2 A14.out).mono ?_); (case side1 => repeat (first | exact (Kd.C_below HR2_1.out HB.out) | (with_reducible refine Kd.C_alloc ?_ _) | (with_reducible refine Kd.C_drewN ?_ _) | (with_reducible refine Kd.C_drew ?_))); (case side2 => exact HC2_1.out); rintro e w29 ⟨v919, rfl, ho0, hb⟩; refine ⟨_, rfl, ?_⟩; have n0_ := Aside0.mk (Kd.R_elder' (by (with_reducible repeat (first | apply Kd.R_alloc | apply Kd.R_drewN | apply Kd.R_drew)); exact HO912.out) (Kd.R_base ho0) hb); have n1_ := Aside0.mk (Kd.R_elder' (by (with_reducible repeat (first | apply Kd.R_alloc | apply Kd.R_drewN | apply Kd.R_drew)); exact HO915.out) (Kd.R_base ho0) hb); have n2_ := Aside0.mk (Kd.R_lower (Kd.R_new' (Kd.R_new' ho0 (Kd.R_lt (by (with_reducible repeat (first | apply Kd.R_alloc | apply Kd.R_drewN | apply Kd.R_drew)); exact HO912.out))) (Kd.R_lt (by (with_reducible repeat (first | apply Kd.R_alloc | apply Kd.R_drewN | apply Kd.R_drew)); exact HO915.out))) (below_size (by repeat (first | (with_reducible first | exact HB.out | apply below_alloc | apply pw_below_drewN | apply below_drew1 | refine below_set ?_ GE904.out | refine below_set ?_ GE905.out) | exact HB.out)))); have n3_ := Aside0.mk (blk_below (g := gb904) (o := .cells #[.int .i64 a0_0, .int .i64 a0_1] 23 (0, 0)) (by (with_reducible repeat (first | refine blk_drewN ?_ _ | refine blk_drew ?_ | refine blk_alloc ?_ _)); exact BK904.out) hb); have n4_ := Aside0.mk (blk_below (g := gb905) (o := .cells #[.int .i64 a2_0, .slice A2_1 l2_1.length c2_1] 54 (0, 0)) (by (with_reducible repeat (first | refine blk_drewN ?_ _ | refine blk_drew ?_ | refine blk_alloc ?_ _)); exact BK905.out) hb); have n5_ := Aside0.mk (below_step (by repeat (first | (with_reducible first | exact HB.out | apply below_alloc | apply pw_below_drewN | apply below_drew1 | refine below_set ?_ GE904.out | refine below_set ?_ GE905.out) | exact HB.out)) hb); clear HO912; clear HO915; clear BK904; clear BK905; clear HB; have HO912 := n0_; have HO915 := n1_; have HO920 := n2_; have BK904 := n3_; have BK905 := n4_; have HB := n5_; clear n0_ n1_ n2_ n3_ n4_ n5_; (try clear hb); (try clear hb2); (try clear hk); (try clear hi); (try clear ho0)) | ((with_reducible refine gate_dst (N := 10) rfl ?_); refine box_event ?hg (N := 10) ?hd (cs := #[.int .i64 0, .slice none 0 0]) (t := 26) ?hr ?_; (case hd => rfl); (case hg => rfl); (case hr => first | (go_simp; done) | (go_simp; rfl)); intro gb921 hg w30 hbox hb; have n0_ := Aside0.mk (Kd.R_below (by (with_reducible repeat (first | apply Kd.R_alloc | apply Kd.R_drewN | apply Kd.R_drew)); exact HO912.out) hb); have n1_ := Aside0.mk (Kd.R_below (by (with_reducible repeat (first | apply Kd.R_alloc | apply Kd.R_drewN | apply Kd.R_drew)); exact HO915.out) hb); have n2_ := Aside0.mk (Kd.R_below (by (with_reducible repeat (first | apply Kd.R_alloc | apply Kd.R_drewN | apply Kd.R_drew)); exact HO920.out) hb); have n3_ := Aside0.mk (blk_below (g := gb904) (o := .cells #[.int .i64 a0_0, .int .i64 a0_1] 23 (0, 0)) (by (with_reducible repeat (first | refine blk_drewN ?_ _ | refine blk_drew ?_ | refine blk_alloc ?_ _)); exact BK904.out) hb); have n4_ := Aside0.mk (blk_below (g := gb905) (o := .cells #[.int .i64 a2_0, .slice A2_1 l2_1.length c2_1] 54 (0, 0)) (by (with_reducible repeat (first | refine blk_drewN ?_ _ | refine blk_drew ?_ | refine blk_alloc ?_ _)); exact BK905.out) hb); have n5_ := Aside0.mk (below_step (by repeat (first | (with_reducible first | exact HB.out | apply below_alloc | apply pw_below_drewN | apply below_drew1 | refine below_set ?_ GE904.out | refine below_set ?_ GE905.out) | exact HB.out)) hb); have n6_ := Aside0.mk (hbox); have n7_ := Aside0.mk ((by rw [hg]; exact (below_size (by repeat (first | (with_reducible first | exact HB.out | apply below_alloc | apply pw_below_drewN | apply below_drew1 | refine below_set ?_ GE904.out | refine below_set ?_ GE905.out) | exact HB.out))) : w.heap.size ≤ gb921)); have n8_ := Aside0.mk ((by rw [hg]; exact (below_size (by repeat (first | (with_reducible first | exact HB.out | apply below_alloc | apply pw_below_drewN | apply below_drew1 | refine below_set ?_ GE904.out | refine below_set ?_ GE905.out) | exact HB.out))) : w.heap.size ≤ gb921)); have n9_ := Aside0.mk ((by rw [hg]; exact Nat.ne_of_lt (blk_lt (g := gb904) (o := .cells #[.int .i64 a0_0, .int .i64 a0_1] 23 (0, 0)) (by (with_reducible repeat (first | refine blk_drewN ?_ _ | refine blk_drew ?_ | refine blk_alloc ?_ _)); exact BK904.out)) : gb904 ≠ gb921)); have n10_ := Aside0.mk ((by rw [hg]; exact Nat.ne_of_gt (blk_lt (g := gb904) (o := .cells #[.int .i64 a0_0, .int .i64 a0_1] 23 (0, 0)) (by (with_reducible repeat (first | refine blk_drewN ?_ _ | refine blk_drew ?_ | refine blk_alloc ?_ _)); exact BK904.out)) : gb921 ≠ gb904)); have n11_ := Aside0.mk ((by rw [hg]; exact Nat.ne_of_lt (blk_lt (g := gb905) (o := .cells #[.int .i64 a2_0, .slice A2_1 l2_1.length c2_1] 54 (0, 0)) (by (with_reducible repeat (first | refine blk_drewN ?_ _ | refine blk_drew ?_ | refine blk_alloc ?_ _)); exact BK905.out)) : gb905 ≠ gb921)); have n12_ := Aside0.mk ((by rw [hg]; exact Nat.ne_of_gt (blk_lt (g := gb905) (o := .cells #[.int .i64 a2_0, .slice A2_1 l2_1.length c2_1] 54 (0, 0)) (by (with_reducible repeat (first | refine blk_drewN ?_ _ | refine blk_drew ?_ | refine blk_alloc ?_ _)); exact BK905.out)) : gb921 ≠ gb905)); clear HO912; clear HO915; clear HO920; clear BK904; clear BK905; clear HB; have HO912 := n0_; have HO915 := n1_; have HO920 := n2_; have BK904 := n3_; have BK905 := n4_; have HB := n5_; have BK921 := n6_; have GW921 := n7_; have GE921 := n8_; have NB904_921 := n9_; have NB921_904 := n10_; have NB905_921 := n11_; have NB921_905 := n12_; clear n0_ n1_ n2_ n3_ n4_ n5_ n6_ n7_ n8_ n9_ n10_ n11_ n12_; clear hb hbox hg; have hnb31 := NB921_904.out; have hnc31 := NB904_921.out; have hnb32 := NB921_905.out; have hnc32 := NB905_921.out; have hcz33_0 : w30.cell? ⟨gb921, 0, none⟩ = some (.int .i64 0) := (blk_cell BK921.out 0).trans rfl; have hcz33_1 : w30.cell? ⟨gb921, 1, none⟩ = some (.slice none 0 0) := (blk_cell BK921.out 1).trans rfl; have hfz33_0 := blk_frozen BK921.out 0; have hfz33_1 := blk_frozen BK921.out 1; obtain ⟨Ao34, co34, eo34⟩ := Kd.R_slice HO920.out; subst eo34))
    have n0_ : Aside0 (Kd.R (Kd.int .i64) 2 ((w30.setCell ⟨gb921, 0, none⟩ (.int .i64 t917)).setCell ⟨gb921, 1, none⟩ (.slice Ao34 t918.length co34)) w.heap.size (fun k_ => some k_ ≠ (v914 : Value).ownBlock ∧ some k_ ≠ (.slice Ao34 t918.length co34 : Value).ownBlock) (.slice Ao26 t910.length co26) t910) := ⟨by (with_reducible repeat (first | apply Kd.R_alloc | apply Kd.R_drewN | apply Kd.R_drew)); exact Kd.R_mono (Kd.R_far (p := ⟨gb921, 1, none⟩) (Kd.R_far (p := ⟨gb921, 0, none⟩) (Kd.R_types HO912.out BK921.out (by decide)) (fun _ hk => hk.2) (.int .i64 t917)) (fun _ hk => hk.2) (.slice Ao34 t918.length co34)) (fun _ hk => ⟨hk.1.1.2, hk.1.2⟩)⟩
    have n1_ : Aside0 (Kd.R (Kd.int .i64) 2 ((w30.setCell ⟨gb921, 0, none⟩ (.int .i64 t917)).setCell ⟨gb921, 1, none⟩ (.slice Ao34 t918.length co34)) w.heap.size (fun k_ => some k_ ≠ (.slice Ao26 t910.length co26 : Value).ownBlock ∧ some k_ ≠ (.slice Ao34 t918.length co34 : Value).ownBlock) v914 t913) := ⟨by (with_reducible repeat (first | apply Kd.R_alloc | apply Kd.R_drewN | apply Kd.R_drew)); exact Kd.R_mono (Kd.R_far (p := ⟨gb921, 1, none⟩) (Kd.R_far (p := ⟨gb921, 0, none⟩) (Kd.R_types HO915.out BK921.out (by decide)) (fun _ hk => hk.2) (.int .i64 t917)) (fun _ hk => hk.2) (.slice Ao34 t918.length co34)) (fun _ hk => ⟨hk.1.1.2, hk.1.2⟩)⟩
    have n2_ : Aside0 (Kd.R (Kd.int .i64) 2 ((w30.setCell ⟨gb921, 0, none⟩ (.int .i64 t917)).setCell ⟨gb921, 1, none⟩ (.slice Ao34 t918.length co34)) w.heap.size (fun k_ => some k_ ≠ (.slice Ao26 t910.length co26 : Value).ownBlock ∧ some k_ ≠ (v914 : Value).ownBlock) (.slice Ao34 t918.length co34) t918) := ⟨by (with_reducible repeat (first | apply Kd.R_alloc | apply Kd.R_drewN | apply Kd.R_drew)); exact Kd.R_mono (Kd.R_far (p := ⟨gb921, 1, none⟩) (Kd.R_far (p := ⟨gb921, 0, none⟩) (Kd.R_types HO920.out BK921.out (by decide)) (fun _ hk => hk.2) (.int .i64 t917)) (fun _ hk => hk.2) (.slice Ao34 t918.length co34)) (fun _ hk => ⟨hk.1.1.2, hk.1.2⟩)⟩
    have n3_ : Aside0 (((w30.setCell ⟨gb921, 0, none⟩ (.int .i64 t917)).setCell ⟨gb921, 1, none⟩ (.slice Ao34 t918.length co34)).heap[gb904]? = some (.cells #[.int .i64 a0_0, .int .i64 a0_1] 23 (0, 0))) := ⟨by (with_reducible repeat (first | refine blk_drewN ?_ _ | refine blk_drew ?_ | refine blk_alloc ?_ _)); refine blk_far ?_ NB904_921.out _; (with_reducible repeat (first | refine blk_drewN ?_ _ | refine blk_drew ?_ | refine blk_alloc ?_ _)); refine blk_far ?_ NB904_921.out _; (with_reducible repeat (first | refine blk_drewN ?_ _ | refine blk_drew ?_ | refine blk_alloc ?_ _)); exact BK904.out⟩
    have n4_ : Aside0 (((w30.setCell ⟨gb921, 0, none⟩ (.int .i64 t917)).setCell ⟨gb921, 1, none⟩ (.slice Ao34 t918.length co34)).heap[gb905]? = some (.cells #[.int .i64 a2_0, .slice A2_1 l2_1.length c2_1] 54 (0, 0))) := ⟨by (with_reducible repeat (first | refine blk_drewN ?_ _ | refine blk_drew ?_ | refine blk_alloc ?_ _)); refine blk_far ?_ NB905_921.out _; (with_reducible repeat (first | refine blk_drewN ?_ _ | refine blk_drew ?_ | refine blk_alloc ?_ _)); refine blk_far ?_ NB905_921.out _; (with_reducible repeat (first | refine blk_drewN ?_ _ | refine blk_drew ?_ | refine blk_alloc ?_ _)); exact BK905.out⟩
    have n5_ : Aside0 (((w30.setCell ⟨gb921, 0, none⟩ (.int .i64 t917)).setCell ⟨gb921, 1, none⟩ (.slice Ao34 t918.length co34)).heap[gb921]? = some (.cells #[.int .i64 t917, .slice Ao34 t918.length co34] 26 (0, 0))) := ⟨by (with_reducible repeat (first | refine blk_drewN ?_ _ | refine blk_drew ?_ | refine blk_alloc ?_ _)); refine blk_put (cs := #[.int .i64 t917, .slice none 0 0]) ?_ 1 _ rfl; (with_reducible repeat (first | refine blk_drewN ?_ _ | refine blk_drew ?_ | refine blk_alloc ?_ _)); refine blk_put (cs := #[.int .i64 0, .slice none 0 0]) ?_ 0 _ rfl; (with_reducible repeat (first | refine blk_drewN ?_ _ | refine blk_drew ?_ | refine blk_alloc ?_ _)); exact BK921.out⟩
    have n6_ : Aside0 (Below w.heap.size w ((w30.setCell ⟨gb921, 0, none⟩ (.int .i64 t917)).setCell ⟨gb921, 1, none⟩ (.slice Ao34 t918.length co34))) := ⟨by repeat (first | (with_reducible first | exact HB.out | apply below_alloc | apply pw_below_drewN | apply below_drew1 | refine below_set ?_ GE904.out | refine below_set ?_ GE905.out | refine below_set ?_ GE921.out) | exact HB.out)⟩
    (try clear HO912)
    (try clear HO915)
    (try clear HO920)
    (try clear BK904)
    (try clear BK905)
    (try clear BK921)
    (try clear HB)
    generalize ((w30.setCell ⟨gb921, 0, none⟩ (.int .i64 t917)).setCell ⟨gb921, 1, none⟩ (.slice Ao34 t918.length co34)) = w35 at n0_ n1_ n2_ n3_ n4_ n5_ n6_ ⊢
    have HO912 := n0_
    have HO915 := n1_
    have HO920 := n2_
    have BK904 := n3_
    have BK905 := n4_
    have BK921 := n5_
    have HB := n6_
    clear n0_ n1_ n2_ n3_ n4_ n5_ n6_
    have n0_ := Aside0.mk (Kd.R_drew HO912.out)
    have n1_ := Aside0.mk (Kd.R_drew HO915.out)
    have n2_ := Aside0.mk (Kd.R_drew HO920.out)
    have n3_ := Aside0.mk (blk_drew BK904.out)
    have n4_ := Aside0.mk (blk_drew BK905.out)
    have n5_ := Aside0.mk (blk_drew BK921.out)
    have n6_ := Aside0.mk (below_drew1 HB.out)
    clear HO912
    clear HO915
    clear HO920
    clear BK904
    clear BK905
    clear BK921
    clear HB
    have HO912 := n0_
    have HO915 := n1_
    have HO920 := n2_
    have BK904 := n3_
    have BK905 := n4_
    have BK921 := n5_
    have HB := n6_
    clear n0_ n1_ n2_ n3_ n4_ n5_ n6_
    refine start_ (n := 10) (S := fun w' => w'.cell? ⟨gb904, 0, none⟩ = some (.int .i64 a0_0) ∧ w'.cell? ⟨gb904, 1, none⟩ = some (.int .i64 a0_1) ∧ w'.cell? ⟨gb921, 0, none⟩ = some (.int .i64 t917) ∧ w'.cell? ⟨gb921, 1, none⟩ = some (.slice Ao34 t918.length co34)) (ds := []) #[false, false, false, false, false, false, false, false, false, false] (by kernel_rfl) rfl rfl ⟨(blk_cell BK904.out 0).trans rfl, (blk_cell BK904.out 1).trans rfl, (blk_cell BK921.out 0).trans rfl, (blk_cell BK921.out 1).trans rfl⟩ (fun hHeld => ?_); refine with_tabW laws_FnExactUnliftSpace.tab7 laws_FnExactUnliftSpace.bits7 (fun HT_ HW_ => ?_)
    generalize w35.drew = w36 at HO912 HO915 HO920 BK904 BK905 BK921 HB hHeld ⊢
    refine pure_ (i := 2) (N := some 37) (v := ?_) (a' := ?_) #[false, false, true, false, false, false, false, false, false, false] rfl rfl (any_of HT_.out (by kernel_rfl)) (fun _ _ _ h => h) (Or.inl ⟨by rfl, ?_⟩) ?_ ?_
    rotate_left
    · intro w'
      go_simp
      with_reducible rfl
    rotate_left
    · simp only [Act.put, List.setIfInBounds_toArray, List.set_cons_zero, List.set_cons_succ, i64_w, i32_w]
      rfl
    refine take_ (i := 0) (N := some 35) (v := ?_) (a' := ?_) #[true, false, true, false, false, false, false, false, false, false] rfl rfl (take_ofW HT_.out HW_.out (by kernel_rfl)) (fun _ _ _ h => h) (Or.inl ⟨by rfl, ?_⟩) hHeld ?_ ?_
    rotate_left
    · rintro w' ⟨s0, s1, s2, s3⟩
      go_simp
      with_reducible rfl
    rotate_left
    · simp only [Act.put, List.setIfInBounds_toArray, List.set_cons_zero, List.set_cons_succ, i64_w, i32_w]
      rfl
    refine take_ (i := 3) (N := some 38) (v := ?_) (a' := ?_) #[true, false, true, true, false, false, false, false, false, false] rfl rfl (take_ofW HT_.out HW_.out (by kernel_rfl)) (fun _ _ _ h => h) (Or.inl ⟨by rfl, ?_⟩) hHeld ?_ ?_
    rotate_left
    · rintro w' ⟨s0, s1, s2, s3⟩
      go_simp
      with_reducible rfl
    rotate_left
    · simp only [Act.put, List.setIfInBounds_toArray, List.set_cons_zero, List.set_cons_succ, i64_w, i32_w]
      rfl
    refine one_ (i := 1) (N := some 36) #[true, true, true, true, false, false, false, false, false, false] rfl rfl (one_of HT_.out (by kernel_rfl)) (by decide) (fun K hK => ?_)
    refine goes_ Try.func18 (by kernel_rfl) rfl #[.agg #[.int .i64 a0_0, .int .i64 a0_1]] (by rfl) rfl rfl (by (try simp only [List.map_toArray, List.map_cons, List.map_nil]); first | done | rfl | (simp only [List.length_drop, List.length_take]; rfl)) ?_
    with_reducible refine (laws_toField.calls a0_0 a0_1 t922 t923 _ A15.out).mono ?_
    rintro e w37 ⟨rfl, hb⟩
    refine ⟨_, rfl, ?_⟩
    have n0_ := Aside0.mk (Kd.R_below (by (with_reducible repeat (first | apply Kd.R_alloc | apply Kd.R_drewN | apply Kd.R_drew)); exact HO912.out) hb)
    have n1_ := Aside0.mk (Kd.R_below (by (with_reducible repeat (first | apply Kd.R_alloc | apply Kd.R_drewN | apply Kd.R_drew)); exact HO915.out) hb)
    have n2_ := Aside0.mk (Kd.R_below (by (with_reducible repeat (first | apply Kd.R_alloc | apply Kd.R_drewN | apply Kd.R_drew)); exact HO920.out) hb)
    have n3_ := Aside0.mk (blk_below (g := gb904) (o := .cells #[.int .i64 a0_0, .int .i64 a0_1] 23 (0, 0)) (by (with_reducible repeat (first | refine blk_drewN ?_ _ | refine blk_drew ?_ | refine blk_alloc ?_ _)); exact BK904.out) hb)
    have n4_ := Aside0.mk (blk_below (g := gb905) (o := .cells #[.int .i64 a2_0, .slice A2_1 l2_1.length c2_1] 54 (0, 0)) (by (with_reducible repeat (first | refine blk_drewN ?_ _ | refine blk_drew ?_ | refine blk_alloc ?_ _)); exact BK905.out) hb)
    have n5_ := Aside0.mk (blk_below (g := gb921) (o := .cells #[.int .i64 t917, .slice Ao34 t918.length co34] 26 (0, 0)) (by (with_reducible repeat (first | refine blk_drewN ?_ _ | refine blk_drew ?_ | refine blk_alloc ?_ _)); exact BK921.out) hb)
    have n6_ := Aside0.mk (below_step (by repeat (first | (with_reducible first | exact HB.out | apply below_alloc | apply pw_below_drewN | apply below_drew1 | refine below_set ?_ GE904.out | refine below_set ?_ GE905.out | refine below_set ?_ GE921.out) | exact HB.out)) hb)
    clear HO912
    clear HO915
    clear HO920
    clear BK904
    clear BK905
    clear BK921
    clear HB
    have HO912 := n0_
    have HO915 := n1_
    have HO920 := n2_
    have BK904 := n3_
    have BK905 := n4_
    have BK921 := n5_
    have HB := n6_
    clear n0_ n1_ n2_ n3_ n4_ n5_ n6_
    (try clear hb)
    (try clear hb2)
    (try clear hk)
    (try clear hi)
    refine hK.out _ _ ⟨(blk_cell BK904.out 0).trans rfl, (blk_cell BK904.out 1).trans rfl, (blk_cell BK921.out 0).trans rfl, (blk_cell BK921.out 1).trans rfl⟩ (fun hHeld => ?_)
    clear hK K
    refine norm_ (a' := ?_) ?_ ?_
    rotate_left
    · show Act.put _ (some 36) _ = _
      simp only [Act.put, List.setIfInBounds_toArray, List.set_cons_zero, List.set_cons_succ, i64_w, i32_w]
      rfl
    refine one_ (i := 4) (N := some 39) #[true, true, true, true, true, false, false, false, false, false] rfl rfl (one_of HT_.out (by kernel_rfl)) (by decide) (fun K hK => ?_)
    refine goes_ Try.func49 (by kernel_rfl) rfl #[.agg #[.int .i64 t922, .int .i64 t923], .int .i64 a1, .agg #[.int .i64 t917, .slice Ao34 t918.length co34]] (by rfl) rfl rfl (by (try simp only [List.map_toArray, List.map_cons, List.map_nil]); first | done | rfl | (simp only [List.length_drop, List.length_take]; rfl)) ?_
    with_reducible refine (impl_UnliftSpace.calls k t922 t923 a1 t917 _ _ t918 t924 t927 _ ?side1 ?side2 A16.out).mono ?_
    (case side1 => repeat (first | exact (Kd.R_reads' HO920.out).2.2 | (with_reducible refine Kd.C_alloc ?_ _) | (with_reducible refine Kd.C_drewN ?_ _) | (with_reducible refine Kd.C_drew ?_)))
    (case side2 => exact (Kd.R_reads' HO920.out).2.1)
    rintro e w38 ⟨v925, rfl, ho0, hb⟩
    refine ⟨_, rfl, ?_⟩
    have n0_ := Aside0.mk (Kd.R_elder' (by (with_reducible repeat (first | apply Kd.R_alloc | apply Kd.R_drewN | apply Kd.R_drew)); exact HO912.out) (Kd.R_base ho0) hb)
    have n1_ := Aside0.mk (Kd.R_elder' (by (with_reducible repeat (first | apply Kd.R_alloc | apply Kd.R_drewN | apply Kd.R_drew)); exact HO915.out) (Kd.R_base ho0) hb)
    have n2_ := Aside0.mk (Kd.R_elder' (by (with_reducible repeat (first | apply Kd.R_alloc | apply Kd.R_drewN | apply Kd.R_drew)); exact HO920.out) (Kd.R_base ho0) hb)
    have n3_ := Aside0.mk (Kd.R_lower (Kd.R_new' (Kd.R_new' (Kd.R_new' ho0 (Kd.R_lt (by (with_reducible repeat (first | apply Kd.R_alloc | apply Kd.R_drewN | apply Kd.R_drew)); exact HO912.out))) (Kd.R_lt (by (with_reducible repeat (first | apply Kd.R_alloc | apply Kd.R_drewN | apply Kd.R_drew)); exact HO915.out))) (Kd.R_lt (by (with_reducible repeat (first | apply Kd.R_alloc | apply Kd.R_drewN | apply Kd.R_drew)); exact HO920.out))) (below_size (by repeat (first | (with_reducible first | exact HB.out | apply below_alloc | apply pw_below_drewN | apply below_drew1 | refine below_set ?_ GE904.out | refine below_set ?_ GE905.out | refine below_set ?_ GE921.out) | exact HB.out))))
    have n4_ := Aside0.mk (blk_below (g := gb904) (o := .cells #[.int .i64 a0_0, .int .i64 a0_1] 23 (0, 0)) (by (with_reducible repeat (first | refine blk_drewN ?_ _ | refine blk_drew ?_ | refine blk_alloc ?_ _)); exact BK904.out) hb)
    have n5_ := Aside0.mk (blk_below (g := gb905) (o := .cells #[.int .i64 a2_0, .slice A2_1 l2_1.length c2_1] 54 (0, 0)) (by (with_reducible repeat (first | refine blk_drewN ?_ _ | refine blk_drew ?_ | refine blk_alloc ?_ _)); exact BK905.out) hb)
    have n6_ := Aside0.mk (blk_below (g := gb921) (o := .cells #[.int .i64 t917, .slice Ao34 t918.length co34] 26 (0, 0)) (by (with_reducible repeat (first | refine blk_drewN ?_ _ | refine blk_drew ?_ | refine blk_alloc ?_ _)); exact BK921.out) hb)
    have n7_ := Aside0.mk (below_step (by repeat (first | (with_reducible first | exact HB.out | apply below_alloc | apply pw_below_drewN | apply below_drew1 | refine below_set ?_ GE904.out | refine below_set ?_ GE905.out | refine below_set ?_ GE921.out) | exact HB.out)) hb)
    clear HO912
    clear HO915
    clear HO920
    clear BK904
    clear BK905
    clear BK921
    clear HB
    have HO912 := n0_
    have HO915 := n1_
    have HO920 := n2_
    have HO926 := n3_
    have BK904 := n4_
    have BK905 := n5_
    have BK921 := n6_
    have HB := n7_
    clear n0_ n1_ n2_ n3_ n4_ n5_ n6_ n7_
    (try clear hb)
    (try clear hb2)
    (try clear hk)
    (try clear hi)
    (try clear ho0)
    refine hK.out _ _ ⟨(blk_cell BK904.out 0).trans rfl, (blk_cell BK904.out 1).trans rfl, (blk_cell BK921.out 0).trans rfl, (blk_cell BK921.out 1).trans rfl⟩ (fun hHeld => ?_)
    clear hK K
    refine norm_ (a' := ?_) ?_ ?_
    rotate_left
    · show Act.put _ (some 39) _ = _
      simp only [Act.put, List.setIfInBounds_toArray, List.set_cons_zero, List.set_cons_succ, i64_w, i32_w]
      rfl
    refine pure_ (i := 5) (N := some 34) (v := ?_) (a' := ?_) #[true, true, true, true, true, true, false, false, false, false] rfl rfl (any_of HT_.out (by kernel_rfl)) (fun _ _ _ h => h) (Or.inl ⟨by rfl, ?_⟩) ?_ ?_
    rotate_left
    · intro w'
      go_simp
      with_reducible rfl
    rotate_left
    · simp only [Act.put, List.setIfInBounds_toArray, List.set_cons_zero, List.set_cons_succ, i64_w, i32_w]
      rfl
    refine pure_ (i := 6) (N := some 40) (v := ?_) (a' := ?_) #[true, true, true, true, true, true, true, false, false, false] rfl rfl (any_of HT_.out (by kernel_rfl)) (fun _ _ _ h => h) (Or.inl ⟨by rfl, ?_⟩) ?_ ?_
    rotate_left
    · intro w'
      go_simp
      with_reducible rfl
    rotate_left
    · simp only [Act.put, List.setIfInBounds_toArray, List.set_cons_zero, List.set_cons_succ, i64_w, i32_w]
      rfl
    refine pure_ (i := 7) (N := some 41) (v := ?_) (a' := ?_) #[true, true, true, true, true, true, true, true, false, false] rfl rfl (any_of HT_.out (by kernel_rfl)) (fun _ _ _ h => h) (Or.inl ⟨by rfl, ?_⟩) ?_ ?_
    rotate_left
    · intro w'
      go_simp
      with_reducible rfl
    rotate_left
    · simp only [Act.put, List.setIfInBounds_toArray, List.set_cons_zero, List.set_cons_succ, i64_w, i32_w]
      rfl
    refine pure_ (i := 8) (N := some 11) (v := ?_) (a' := ?_) #[true, true, true, true, true, true, true, true, true, false] rfl rfl (any_of HT_.out (by kernel_rfl)) (fun _ _ _ h => h) (Or.inl ⟨by rfl, ?_⟩) ?_ ?_
    rotate_left
    · intro w'
      go_simp
      with_reducible rfl
    rotate_left
    · simp only [Act.put, List.setIfInBounds_toArray, List.set_cons_zero, List.set_cons_succ, i64_w, i32_w]
      rfl
    refine pure_ (i := 9) (N := some 12) (v := ?_) (a' := ?_) #[true, true, true, true, true, true, true, true, true, true] rfl rfl (any_of HT_.out (by kernel_rfl)) (fun _ _ _ h => h) (Or.inl ⟨by rfl, ?_⟩) ?_ ?_
    rotate_left
    · intro w'
      go_simp
      with_reducible rfl
    rotate_left
    · simp only [Act.put, List.setIfInBounds_toArray, List.set_cons_zero, List.set_cons_succ, i64_w, i32_w]
      rfl
    refine done_ (done_of HT_.out (by kernel_rfl)) ?_
    go_upto_region 8 with (fail)
    go_cut [50] (fun v50 wc => ∃ (kq : Nat) (x50_16 : Bool), v50 = .bool x50_16 ∧ Aside0 (laws_FnExactUnliftSpace.j0 kq a1 t913 t916 t924 t927 x50_16 a0_0 a0_1 a2_0 l2_1 t917 t918 = some r) ∧ Aside0 (kq ≤ k) ∧ Aside0 (Kd.R (Kd.int .i64) 2 wc w.heap.size (fun k_ => some k_ ≠ (v925 : Value).ownBlock ∧ some k_ ≠ ((.slice Ao34 t918.length co34) : Value).ownBlock) v914 t913) ∧ Aside0 (Kd.R (Kd.int .i64) 2 wc w.heap.size (fun k_ => some k_ ≠ (v914 : Value).ownBlock ∧ some k_ ≠ ((.slice Ao34 t918.length co34) : Value).ownBlock) v925 t924) ∧ Aside0 (Kd.R (Kd.int .i64) 2 wc w.heap.size (fun k_ => some k_ ≠ (v914 : Value).ownBlock ∧ some k_ ≠ (v925 : Value).ownBlock) (.slice Ao34 t918.length co34) t918) ∧ Aside0 (wc.heap[gb904]? = some (.cells #[.int .i64 a0_0, .int .i64 a0_1] 23 (0, 0))) ∧ Aside0 (wc.heap[gb905]? = some (.cells #[.int .i64 a2_0, (.slice A2_1 l2_1.length c2_1)] 54 (0, 0))) ∧ Aside0 (wc.heap[gb921]? = some (.cells #[.int .i64 t917, (.slice Ao34 t918.length co34)] 26 (0, 0))) ∧ Aside0 (Below w.heap.size w wc))
    case first =>
      have H := HC17.out
      clear HC17
      replace H := Option.bind_eq_some_iff.mp H
      obtain ⟨t928, A390, H⟩ := H
      replace H : (if t928 = true then (laws_FnExactUnliftSpace.j0 k a1 t913 t916 t924 t927 (t927 != t916) a0_0 a0_1 a2_0 l2_1 t917 t918) else (laws_FnExactUnliftSpace.j0 k a1 t913 t916 t924 t927 true a0_0 a0_1 a2_0 l2_1 t917 t918)) = some r := H
      have A39 := Aside0.mk A390
      clear A390
      by_cases c40 : t928 = true
      · subst c40
        have H1 : (laws_FnExactUnliftSpace.j0 k a1 t913 t916 t924 t927 (t927 != t916) a0_0 a0_1 a2_0 l2_1 t917 t918) = some r := by rw [if_pos rfl] at H; exact H
        clear H
        have H := H1
        clear H1
        have H' := Aside0.mk H
        clear H
        obtain ⟨Ao41, co41, eo41⟩ := Kd.R_slice HO926.out
        subst eo41
        obtain ⟨Ao42, co42, eo42⟩ := Kd.R_slice HO915.out
        subst eo42
        go_wp2_with (first | ((with_reducible refine gate_callee (f := 22) rfl ?_); refine goesL_ (some 44) rfl rfl Try.func22 (by kernel_rfl) rfl #[.slice Ao41 t924.length co41, .slice Ao42 t913.length co42] rfl (by (try simp only [List.map_toArray, List.map_cons, List.map_nil]); first | done | rfl | (simp only [List.length_drop, List.length_take]; rfl)) ?_; (with_reducible refine (laws_eqInt64S.calls k _ _ t924 _ _ t913 true _ ?side1 ?side2 ?side3 ?side4 A39.out).mono ?_); (case side1 => repeat (first | exact (Kd.R_reads' HO926.out).2.2 | (with_reducible refine Kd.C_alloc ?_ _) | (with_reducible refine Kd.C_drewN ?_ _) | (with_reducible refine Kd.C_drew ?_))); (case side2 => exact (Kd.R_reads' HO926.out).2.1); (case side3 => repeat (first | exact (Kd.R_reads' HO915.out).2.2 | (with_reducible refine Kd.C_alloc ?_ _) | (with_reducible refine Kd.C_drewN ?_ _) | (with_reducible refine Kd.C_drew ?_))); (case side4 => exact (Kd.R_reads' HO915.out).2.1); rintro e w' ⟨rfl, ⟨nd, rfl⟩⟩; refine ⟨_, rfl, ?_⟩))
        go_meet
        case rel => exact ⟨_, ((t927 != t916)), (by first | rfl | (simp; done) | (simp [*]; done)), H', ⟨by first | omega | exact Nat.le_refl _⟩, ⟨by (with_reducible repeat (first | apply Kd.R_alloc | apply Kd.R_drewN | apply Kd.R_drew)); exact Kd.R_mono HO915.out (fun _ hk => ⟨hk.2, hk.1.2⟩)⟩, ⟨by (with_reducible repeat (first | apply Kd.R_alloc | apply Kd.R_drewN | apply Kd.R_drew)); exact Kd.R_mono HO926.out (fun _ hk => ⟨hk.1.2, hk.2⟩)⟩, ⟨by (with_reducible repeat (first | apply Kd.R_alloc | apply Kd.R_drewN | apply Kd.R_drew)); exact Kd.R_mono HO920.out (fun _ hk => ⟨hk.1.2, hk.2⟩)⟩, ⟨by (with_reducible repeat (first | refine blk_drewN ?_ _ | refine blk_drew ?_ | refine blk_alloc ?_ _)); exact BK904.out⟩, ⟨by (with_reducible repeat (first | refine blk_drewN ?_ _ | refine blk_drew ?_ | refine blk_alloc ?_ _)); exact BK905.out⟩, ⟨by (with_reducible repeat (first | refine blk_drewN ?_ _ | refine blk_drew ?_ | refine blk_alloc ?_ _)); exact BK921.out⟩, ⟨by repeat (first | (with_reducible first | exact HB.out | apply below_alloc | apply pw_below_drewN | apply below_drew1 | refine below_set ?_ GE904.out | refine below_set ?_ GE905.out | refine below_set ?_ GE921.out) | exact HB.out)⟩⟩
      · replace c40 := Bool.eq_false_iff.mpr c40
        subst c40
        have H1 : (laws_FnExactUnliftSpace.j0 k a1 t913 t916 t924 t927 true a0_0 a0_1 a2_0 l2_1 t917 t918) = some r := by rw [if_neg (show ¬ (false = true) by decide)] at H; exact H
        clear H
        have H := H1
        clear H1
        have H' := Aside0.mk H
        clear H
        obtain ⟨Ao43, co43, eo43⟩ := Kd.R_slice HO926.out
        subst eo43
        obtain ⟨Ao44, co44, eo44⟩ := Kd.R_slice HO915.out
        subst eo44
        go_wp2_with (first | ((with_reducible refine gate_callee (f := 22) rfl ?_); refine goesL_ (some 44) rfl rfl Try.func22 (by kernel_rfl) rfl #[.slice Ao43 t924.length co43, .slice Ao44 t913.length co44] rfl (by (try simp only [List.map_toArray, List.map_cons, List.map_nil]); first | done | rfl | (simp only [List.length_drop, List.length_take]; rfl)) ?_; (with_reducible refine (laws_eqInt64S.calls k _ _ t924 _ _ t913 false _ ?side1 ?side2 ?side3 ?side4 A39.out).mono ?_); (case side1 => repeat (first | exact (Kd.R_reads' HO926.out).2.2 | (with_reducible refine Kd.C_alloc ?_ _) | (with_reducible refine Kd.C_drewN ?_ _) | (with_reducible refine Kd.C_drew ?_))); (case side2 => exact (Kd.R_reads' HO926.out).2.1); (case side3 => repeat (first | exact (Kd.R_reads' HO915.out).2.2 | (with_reducible refine Kd.C_alloc ?_ _) | (with_reducible refine Kd.C_drewN ?_ _) | (with_reducible refine Kd.C_drew ?_))); (case side4 => exact (Kd.R_reads' HO915.out).2.1); rintro e w' ⟨rfl, ⟨nd, rfl⟩⟩; refine ⟨_, rfl, ?_⟩))
        go_meet
        case rel => exact ⟨_, (true), (by first | rfl | (simp; done) | (simp [*]; done)), H', ⟨by first | omega | exact Nat.le_refl _⟩, ⟨by (with_reducible repeat (first | apply Kd.R_alloc | apply Kd.R_drewN | apply Kd.R_drew)); exact Kd.R_mono HO915.out (fun _ hk => ⟨hk.2, hk.1.2⟩)⟩, ⟨by (with_reducible repeat (first | apply Kd.R_alloc | apply Kd.R_drewN | apply Kd.R_drew)); exact Kd.R_mono HO926.out (fun _ hk => ⟨hk.1.2, hk.2⟩)⟩, ⟨by (with_reducible repeat (first | apply Kd.R_alloc | apply Kd.R_drewN | apply Kd.R_drew)); exact Kd.R_mono HO920.out (fun _ hk => ⟨hk.1.2, hk.2⟩)⟩, ⟨by (with_reducible repeat (first | refine blk_drewN ?_ _ | refine blk_drew ?_ | refine blk_alloc ?_ _)); exact BK904.out⟩, ⟨by (with_reducible repeat (first | refine blk_drewN ?_ _ | refine blk_drew ?_ | refine blk_alloc ?_ _)); exact BK905.out⟩, ⟨by (with_reducible repeat (first | refine blk_drewN ?_ _ | refine blk_drew ?_ | refine blk_alloc ?_ _)); exact BK921.out⟩, ⟨by repeat (first | (with_reducible first | exact HB.out | apply below_alloc | apply pw_below_drewN | apply below_drew1 | refine below_set ?_ GE904.out | refine below_set ?_ GE905.out | refine below_set ?_ GE921.out) | exact HB.out)⟩⟩
    case rest =>
      clear HC17
      try clear c1
      try clear c2
      try clear p2
      try clear c3
      try clear c4
      try clear c5
      try clear c5b0
      try clear c8
      try clear c12
      try clear c18
      try clear c20
      try clear c22
      try clear c31
      try clear c32
      try clear c40
      try clear hcz21_0
      try clear hcz21_1
      try clear hcz28_0
      try clear hcz28_1
      try clear hcz33_0
      try clear hcz33_1
      try clear hcz9_0
      try clear hcz9_1
      try clear hfz21_0
      try clear hfz21_1
      try clear hfz28_0
      try clear hfz28_1
      try clear hfz33_0
      try clear hfz33_1
      try clear hfz9_0
      try clear hfz9_1
      obtain ⟨kq, x50_16, rfl, HA, HJ16, HO_8, HO_11, HO_922001, BK904, BK905, BK921, HB⟩ := hcut
      cases kq with
      | zero => exact absurd HA.out (by simp [laws_FnExactUnliftSpace.j0])
      | succ kj16 =>
        have H := HA.out
        clear HA
        simp only [laws_FnExactUnliftSpace.j0] at H
        by_cases c45 : x50_16 = true
        · subst c45
          have H1 : (some false) = some r := by rw [if_pos rfl] at H; exact H
          clear H
          have H := H1
          clear H1
          obtain rfl := Option.some.inj H
          go_wp2
          go_ret
          exact ⟨by first | rfl | (simp [errW_none, errW_some] <;> rfl) | (simp [*, errW_none, errW_some] <;> rfl), by repeat (first | (with_reducible first | exact HB.out | apply below_alloc | apply pw_below_drewN | apply below_drew1 | refine below_set ?_ GE904.out | refine below_set ?_ GE905.out | refine below_set ?_ GE921.out) | exact HB.out)⟩
        · replace c45 := Bool.eq_false_iff.mpr c45
          subst c45
          have H1 : ((laws_toMatrix.f kj16 a2_0 l2_1).bind fun bt929 => ((laws_eqMatrix.f kj16 t917 t918 bt929.1 bt929.2).bind fun t933 => (if t933 = true then ((laws_markMatrix.f kj16 t917 t918 1).bind fun bt934 => (if bt934.1 < 0 then (laws_FnExactUnliftSpace.j1 kj16 a1 t913 t916 t924 true a0_0 a0_1 a2_0 l2_1) else ((laws_eqInt64S.f kj16 t924 t913).bind fun t936 => (if t936 = true then (laws_FnExactUnliftSpace.j1 kj16 a1 t913 t916 t924 (t927 != t916) a0_0 a0_1 a2_0 l2_1) else (laws_FnExactUnliftSpace.j1 kj16 a1 t913 t916 t924 true a0_0 a0_1 a2_0 l2_1))))) else (some false)))) = some r := by rw [if_neg (show ¬ (false = true) by decide)] at H; exact H
          clear H
          have H := H1
          clear H1
          replace H := Option.bind_eq_some_iff.mp H
          obtain ⟨⟨t929, t930⟩, A460, H⟩ := H
          replace H : ((laws_eqMatrix.f kj16 t917 t918 t929 t930).bind fun t933 => (if t933 = true then ((laws_markMatrix.f kj16 t917 t918 1).bind fun bt934 => (if bt934.1 < 0 then (laws_FnExactUnliftSpace.j1 kj16 a1 t913 t916 t924 true a0_0 a0_1 a2_0 l2_1) else ((laws_eqInt64S.f kj16 t924 t913).bind fun t936 => (if t936 = true then (laws_FnExactUnliftSpace.j1 kj16 a1 t913 t916 t924 (t927 != t916) a0_0 a0_1 a2_0 l2_1) else (laws_FnExactUnliftSpace.j1 kj16 a1 t913 t916 t924 true a0_0 a0_1 a2_0 l2_1))))) else (some false))) = some r := H
          have A46 := Aside0.mk A460
          clear A460
          replace H := Option.bind_eq_some_iff.mp H
          obtain ⟨t933, A470, H⟩ := H
          replace H : (if t933 = true then ((laws_markMatrix.f kj16 t917 t918 1).bind fun bt934 => (if bt934.1 < 0 then (laws_FnExactUnliftSpace.j1 kj16 a1 t913 t916 t924 true a0_0 a0_1 a2_0 l2_1) else ((laws_eqInt64S.f kj16 t924 t913).bind fun t936 => (if t936 = true then (laws_FnExactUnliftSpace.j1 kj16 a1 t913 t916 t924 (t927 != t916) a0_0 a0_1 a2_0 l2_1) else (laws_FnExactUnliftSpace.j1 kj16 a1 t913 t916 t924 true a0_0 a0_1 a2_0 l2_1))))) else (some false)) = some r := H
          have A47 := Aside0.mk A470
          clear A470
          by_cases c48 : t933 = true
          · subst c48
            have H1 : ((laws_markMatrix.f kj16 t917 t918 1).bind fun bt934 => (if bt934.1 < 0 then (laws_FnExactUnliftSpace.j1 kj16 a1 t913 t916 t924 true a0_0 a0_1 a2_0 l2_1) else ((laws_eqInt64S.f kj16 t924 t913).bind fun t936 => (if t936 = true then (laws_FnExactUnliftSpace.j1 kj16 a1 t913 t916 t924 (t927 != t916) a0_0 a0_1 a2_0 l2_1) else (laws_FnExactUnliftSpace.j1 kj16 a1 t913 t916 t924 true a0_0 a0_1 a2_0 l2_1))))) = some r := by rw [if_pos rfl] at H; exact H
            clear H
            have H := H1
            clear H1
            replace H := Option.bind_eq_some_iff.mp H
            obtain ⟨⟨t934, t935⟩, A490, H⟩ := H
            replace H : (if t934 < 0 then (laws_FnExactUnliftSpace.j1 kj16 a1 t913 t916 t924 true a0_0 a0_1 a2_0 l2_1) else ((laws_eqInt64S.f kj16 t924 t913).bind fun t936 => (if t936 = true then (laws_FnExactUnliftSpace.j1 kj16 a1 t913 t916 t924 (t927 != t916) a0_0 a0_1 a2_0 l2_1) else (laws_FnExactUnliftSpace.j1 kj16 a1 t913 t916 t924 true a0_0 a0_1 a2_0 l2_1)))) = some r := H
            have A49 := Aside0.mk A490
            clear A490
            have HC50 := Aside0.mk H
            clear H
            try go_wp2
            have n0_ := Aside0.mk (Kd.R_drew HO_8.out)
            have n1_ := Aside0.mk (Kd.R_drew HO_11.out)
            have n2_ := Aside0.mk (Kd.R_drew HO_922001.out)
            have n3_ := Aside0.mk (blk_drew BK904.out)
            have n4_ := Aside0.mk (blk_drew BK905.out)
            have n5_ := Aside0.mk (blk_drew BK921.out)
            have n6_ := Aside0.mk (below_drew1 HB.out)
            clear HO_8
            clear HO_11
            clear HO_922001
            clear BK904
            clear BK905
            clear BK921
            clear HB
            have HO_8 := n0_
            have HO_11 := n1_
            have HO_922001 := n2_
            have BK904 := n3_
            have BK905 := n4_
            have BK921 := n5_
            have HB := n6_
            clear n0_ n1_ n2_ n3_ n4_ n5_ n6_
            refine start_ (n := 5) (S := fun w' => w'.cell? ⟨gb921, 0, none⟩ = some (.int .i64 t917) ∧ w'.cell? ⟨gb921, 1, none⟩ = some (.slice Ao34 t918.length co34) ∧ w'.cell? ⟨gb905, 0, none⟩ = some (.int .i64 a2_0) ∧ w'.cell? ⟨gb905, 1, none⟩ = some (.slice A2_1 l2_1.length c2_1)) (ds := []) #[false, false, false, false, false] (by kernel_rfl) rfl rfl ⟨(blk_cell BK921.out 0).trans rfl, (blk_cell BK921.out 1).trans rfl, (blk_cell BK905.out 0).trans rfl, (blk_cell BK905.out 1).trans rfl⟩ (fun hHeld => ?_)
            generalize wc.drew = w51 at HO_8 HO_11 HO_922001 BK904 BK905 BK921 HB hHeld ⊢
            refine take_ (i := 0) (N := some 51) (v := ?_) (a' := ?_) #[true, false, false, false, false] rfl rfl (by kernel_rfl) (fun _ _ _ h => h) (Or.inl ⟨by rfl, ?_⟩) hHeld ?_ ?_
            rotate_left
            · rintro w' ⟨s0, s1, s2, s3⟩
              go_simp
              with_reducible rfl
            rotate_left
            · simp only [Act.put, List.setIfInBounds_toArray, List.set_cons_zero, List.set_cons_succ, i64_w, i32_w]
              rfl
            refine take_ (i := 1) (N := some 52) (v := ?_) (a' := ?_) #[true, true, false, false, false] rfl rfl (by kernel_rfl) (fun _ _ _ h => h) (Or.inl ⟨by rfl, ?_⟩) hHeld ?_ ?_
            rotate_left
            · rintro w' ⟨s0, s1, s2, s3⟩
              go_simp
              with_reducible rfl
            rotate_left
            · simp only [Act.put, List.setIfInBounds_toArray, List.set_cons_zero, List.set_cons_succ, i64_w, i32_w]
              rfl
            refine one_ (i := 2) (N := some 53) #[true, true, true, false, false] rfl rfl (by kernel_rfl) (by decide) (fun K hK => ?_)
            refine goes_ Try.func48 (by kernel_rfl) rfl #[.agg #[.int .i64 a2_0, .slice A2_1 l2_1.length c2_1]] (by rfl) rfl rfl (by (try simp only [List.map_toArray, List.map_cons, List.map_nil]); first | done | rfl | (simp only [List.length_drop, List.length_take]; rfl)) ?_
            with_reducible refine (laws_toMatrix.calls kj16 a2_0 _ _ l2_1 t929 t930 _ ?side1 ?side2 A46.out).mono ?_
            (case side1 => repeat (first | exact (Kd.C_below HR2_1.out HB.out) | (with_reducible refine Kd.C_alloc ?_ _) | (with_reducible refine Kd.C_drewN ?_ _) | (with_reducible refine Kd.C_drew ?_)))
            (case side2 => exact HC2_1.out)
            rintro e w52 ⟨v931, rfl, ho0, hb⟩
            refine ⟨_, rfl, ?_⟩
            have n0_ := Aside0.mk (Kd.R_elder' (by (with_reducible repeat (first | apply Kd.R_alloc | apply Kd.R_drewN | apply Kd.R_drew)); exact HO_8.out) (Kd.R_base ho0) hb)
            have n1_ := Aside0.mk (Kd.R_elder' (by (with_reducible repeat (first | apply Kd.R_alloc | apply Kd.R_drewN | apply Kd.R_drew)); exact HO_11.out) (Kd.R_base ho0) hb)
            have n2_ := Aside0.mk (Kd.R_elder' (by (with_reducible repeat (first | apply Kd.R_alloc | apply Kd.R_drewN | apply Kd.R_drew)); exact HO_922001.out) (Kd.R_base ho0) hb)
            have n3_ := Aside0.mk (Kd.R_lower (Kd.R_new' (Kd.R_new' (Kd.R_new' ho0 (Kd.R_lt (by (with_reducible repeat (first | apply Kd.R_alloc | apply Kd.R_drewN | apply Kd.R_drew)); exact HO_8.out))) (Kd.R_lt (by (with_reducible repeat (first | apply Kd.R_alloc | apply Kd.R_drewN | apply Kd.R_drew)); exact HO_11.out))) (Kd.R_lt (by (with_reducible repeat (first | apply Kd.R_alloc | apply Kd.R_drewN | apply Kd.R_drew)); exact HO_922001.out))) (below_size (by repeat (first | (with_reducible first | exact HB.out | apply below_alloc | apply pw_below_drewN | apply below_drew1 | refine below_set ?_ GE904.out | refine below_set ?_ GE905.out | refine below_set ?_ GE921.out) | exact HB.out))))
            have n4_ := Aside0.mk (blk_below (g := gb904) (o := .cells #[.int .i64 a0_0, .int .i64 a0_1] 23 (0, 0)) (by (with_reducible repeat (first | refine blk_drewN ?_ _ | refine blk_drew ?_ | refine blk_alloc ?_ _)); exact BK904.out) hb)
            have n5_ := Aside0.mk (blk_below (g := gb905) (o := .cells #[.int .i64 a2_0, .slice A2_1 l2_1.length c2_1] 54 (0, 0)) (by (with_reducible repeat (first | refine blk_drewN ?_ _ | refine blk_drew ?_ | refine blk_alloc ?_ _)); exact BK905.out) hb)
            have n6_ := Aside0.mk (blk_below (g := gb921) (o := .cells #[.int .i64 t917, .slice Ao34 t918.length co34] 26 (0, 0)) (by (with_reducible repeat (first | refine blk_drewN ?_ _ | refine blk_drew ?_ | refine blk_alloc ?_ _)); exact BK921.out) hb)
            have n7_ := Aside0.mk (below_step (by repeat (first | (with_reducible first | exact HB.out | apply below_alloc | apply pw_below_drewN | apply below_drew1 | refine below_set ?_ GE904.out | refine below_set ?_ GE905.out | refine below_set ?_ GE921.out) | exact HB.out)) hb)
            clear HO_8
            clear HO_11
            clear HO_922001
            clear BK904
            clear BK905
            clear BK921
            clear HB
            have HO_8 := n0_
            have HO_11 := n1_
            have HO_922001 := n2_
            have HO932 := n3_
            have BK904 := n4_
            have BK905 := n5_
            have BK921 := n6_
            have HB := n7_
            clear n0_ n1_ n2_ n3_ n4_ n5_ n6_ n7_
            (try clear hb)
            (try clear hb2)
            (try clear hk)
            (try clear hi)
            (try clear ho0)
            obtain ⟨Ao53, co53, eo53⟩ := Kd.R_slice HO932.out
            (first | subst eo53 | (injection eo53 with f1_ f2_ f3_; have f4_ := f1_.symm; have f5_ := f3_.symm; clear f1_ f2_ f3_; subst f4_; subst f5_))
            refine hK.out _ _ ⟨(blk_cell BK921.out 0).trans rfl, (blk_cell BK921.out 1).trans rfl, (blk_cell BK905.out 0).trans rfl, (blk_cell BK905.out 1).trans rfl⟩ (fun hHeld => ?_)
            clear hK K
            refine norm_ (a' := ?_) ?_ ?_
            rotate_left
            · show Act.put _ (some 53) _ = _
              simp only [Act.put, List.setIfInBounds_toArray, List.set_cons_zero, List.set_cons_succ, i64_w, i32_w]
              rfl
            refine one_ (i := 3) (N := some 54) #[true, true, true, true, false] rfl rfl (by kernel_rfl) (by decide) (fun K hK => ?_)
            refine goes_ Try.func21 (by kernel_rfl) rfl #[.agg #[.int .i64 t917, .slice Ao34 t918.length co34], .agg #[.int .i64 t929, .slice Ao53 t930.length co53]] (by rfl) rfl rfl (by (try simp only [List.map_toArray, List.map_cons, List.map_nil]); first | done | rfl | (simp only [List.length_drop, List.length_take]; rfl)) ?_
            with_reducible refine (laws_eqMatrix.calls kj16 t917 _ _ t918 t929 _ _ t930 true _ ?side1 ?side2 ?side3 ?side4 A47.out).mono ?_
            (case side1 => repeat (first | exact (Kd.R_reads' HO_922001.out).2.2 | (with_reducible refine Kd.C_alloc ?_ _) | (with_reducible refine Kd.C_drewN ?_ _) | (with_reducible refine Kd.C_drew ?_)))
            (case side2 => exact (Kd.R_reads' HO_922001.out).2.1)
            (case side3 => repeat (first | exact (Kd.R_reads' HO932.out).2.2 | (with_reducible refine Kd.C_alloc ?_ _) | (with_reducible refine Kd.C_drewN ?_ _) | (with_reducible refine Kd.C_drew ?_)))
            (case side4 => exact (Kd.R_reads' HO932.out).2.1)
            rintro e w54 ⟨rfl, hb⟩
            refine ⟨_, rfl, ?_⟩
            have n0_ := Aside0.mk (Kd.R_below (by (with_reducible repeat (first | apply Kd.R_alloc | apply Kd.R_drewN | apply Kd.R_drew)); exact HO_8.out) hb)
            have n1_ := Aside0.mk (Kd.R_below (by (with_reducible repeat (first | apply Kd.R_alloc | apply Kd.R_drewN | apply Kd.R_drew)); exact HO_11.out) hb)
            have n2_ := Aside0.mk (Kd.R_below (by (with_reducible repeat (first | apply Kd.R_alloc | apply Kd.R_drewN | apply Kd.R_drew)); exact HO_922001.out) hb)
            have n3_ := Aside0.mk (Kd.R_below (by (with_reducible repeat (first | apply Kd.R_alloc | apply Kd.R_drewN | apply Kd.R_drew)); exact HO932.out) hb)
            have n4_ := Aside0.mk (blk_below (g := gb904) (o := .cells #[.int .i64 a0_0, .int .i64 a0_1] 23 (0, 0)) (by (with_reducible repeat (first | refine blk_drewN ?_ _ | refine blk_drew ?_ | refine blk_alloc ?_ _)); exact BK904.out) hb)
            have n5_ := Aside0.mk (blk_below (g := gb905) (o := .cells #[.int .i64 a2_0, .slice A2_1 l2_1.length c2_1] 54 (0, 0)) (by (with_reducible repeat (first | refine blk_drewN ?_ _ | refine blk_drew ?_ | refine blk_alloc ?_ _)); exact BK905.out) hb)
            have n6_ := Aside0.mk (blk_below (g := gb921) (o := .cells #[.int .i64 t917, .slice Ao34 t918.length co34] 26 (0, 0)) (by (with_reducible repeat (first | refine blk_drewN ?_ _ | refine blk_drew ?_ | refine blk_alloc ?_ _)); exact BK921.out) hb)
            have n7_ := Aside0.mk (below_step (by repeat (first | (with_reducible first | exact HB.out | apply below_alloc | apply pw_below_drewN | apply below_drew1 | refine below_set ?_ GE904.out | refine below_set ?_ GE905.out | refine below_set ?_ GE921.out) | exact HB.out)) hb)
            clear HO_8
            clear HO_11
            clear HO_922001
            clear HO932
            clear BK904
            clear BK905
            clear BK921
            clear HB
            have HO_8 := n0_
            have HO_11 := n1_
            have HO_922001 := n2_
            have HO932 := n3_
            have BK904 := n4_
            have BK905 := n5_
            have BK921 := n6_
            have HB := n7_
            clear n0_ n1_ n2_ n3_ n4_ n5_ n6_ n7_
            (try clear hb)
            (try clear hb2)
            (try clear hk)
            (try clear hi)
            refine hK.out _ _ ⟨(blk_cell BK921.out 0).trans rfl, (blk_cell BK921.out 1).trans rfl, (blk_cell BK905.out 0).trans rfl, (blk_cell BK905.out 1).trans rfl⟩ (fun hHeld => ?_)
            clear hK K
            refine norm_ (a' := ?_) ?_ ?_
            rotate_left
            · show Act.put _ (some 54) _ = _
              simp only [Act.put, List.setIfInBounds_toArray, List.set_cons_zero, List.set_cons_succ, i64_w, i32_w]
              rfl
            refine pure_ (i := 4) (N := some 55) (v := ?_) (a' := ?_) #[true, true, true, true, true] rfl rfl (by kernel_rfl) (fun _ _ _ h => h) (Or.inl ⟨by rfl, ?_⟩) ?_ ?_
            rotate_left
            · intro w'
              go_simp
              with_reducible rfl
            rotate_left
            · simp only [Act.put, List.setIfInBounds_toArray, List.set_cons_zero, List.set_cons_succ, i64_w, i32_w]
              rfl
            refine done_ (by kernel_rfl) ?_
            have hnb55 := NB921_904.out
            have hnc55 := NB904_921.out
            have hnb56 := NB921_905.out
            have hnc56 := NB905_921.out
            have hcz57_0 : w54.cell? ⟨gb921, 0, none⟩ = some (.int .i64 t917) := (blk_cell BK921.out 0).trans rfl
            have hcz57_1 : w54.cell? ⟨gb921, 1, none⟩ = some (.slice Ao34 t918.length co34) := (blk_cell BK921.out 1).trans rfl
            have hfz57_0 := blk_frozen BK921.out 0
            have hfz57_1 := blk_frozen BK921.out 1
            go_upto_region 14 with (first | ((with_reducible refine gate_callee (f := 24) rfl ?_); refine goesL_ (some 58) rfl rfl Try.func24 (by kernel_rfl) rfl #[.agg #[.int .i64 t917, .slice Ao34 t918.length co34], .int .i64 1] rfl (by (try simp only [List.map_toArray, List.map_cons, List.map_nil]); first | done | rfl | (simp only [List.length_drop, List.length_take]; rfl)) ?_; (with_reducible refine (laws_markMatrix.calls kj16 t917 (fun k_ => some k_ = (.slice Ao34 t918.length co34 : Value).ownBlock) (.slice Ao34 t918.length co34) t918 1 t934 t935 w _ ?side1 ?side2 A49.out).mono ?_); (case side1 => repeat (first | (with_reducible first | exact HB.out | apply below_alloc | apply pw_below_drewN | apply below_drew1 | refine below_set ?_ GE904.out | refine below_set ?_ GE905.out | refine below_set ?_ GE921.out) | exact HB.out)); (case side2 => exact Kd.R_tight rfl HO_922001.out); rintro e w58 ⟨rfl, hy0, hb, hkp⟩; refine ⟨_, rfl, ?_⟩; have n0_ := Aside0.mk (Kd.R_mono (ok' := fun k_ => some k_ ≠ (v925 : Value).ownBlock ∧ some k_ ≠ (.slice Ao34 t918.length co34 : Value).ownBlock ∧ some k_ ≠ (.slice Ao53 t930.length co53 : Value).ownBlock) (Kd.R_keptB (HO_8.out) hkp (fun k_ hk_ hs_ => (hk_.1.2) hs_)) (fun k_ hk_ => ⟨hk_.1.1.1, hk_.1.1.2, hk_.1.2⟩)); have n1_ := Aside0.mk (Kd.R_mono (ok' := fun k_ => some k_ ≠ (v914 : Value).ownBlock ∧ some k_ ≠ (.slice Ao34 t918.length co34 : Value).ownBlock ∧ some k_ ≠ (.slice Ao53 t930.length co53 : Value).ownBlock) (Kd.R_keptB (HO_11.out) hkp (fun k_ hk_ hs_ => (hk_.1.2) hs_)) (fun k_ hk_ => ⟨hk_.1.1.1, hk_.1.1.2, hk_.1.2⟩)); have n2_ := Aside0.mk (Kd.R_reok rfl hy0 (fun k_ e_ => HO_922001.out.1 k_ e_)); have n3_ := Aside0.mk (blk_kept (by (with_reducible repeat (first | refine blk_drewN ?_ _ | refine blk_drew ?_ | refine blk_alloc ?_ _)); exact BK904.out) hkp (fun hs_ => (fun e_ => (Kd.R_ne HO_922001.out BK904.out (by decide)) e_) hs_)); have n4_ := Aside0.mk (blk_kept (by (with_reducible repeat (first | refine blk_drewN ?_ _ | refine blk_drew ?_ | refine blk_alloc ?_ _)); exact BK905.out) hkp (fun hs_ => (fun e_ => (Kd.R_ne HO_922001.out BK905.out (by decide)) e_) hs_)); have n5_ := Aside0.mk (blk_kept (by (with_reducible repeat (first | refine blk_drewN ?_ _ | refine blk_drew ?_ | refine blk_alloc ?_ _)); exact BK921.out) hkp (fun hs_ => (fun e_ => (Kd.R_ne HO_922001.out BK921.out (by decide)) e_) hs_)); have n6_ := Aside0.mk (Kd.R_mono (ok' := fun k_ => some k_ ≠ (v914 : Value).ownBlock ∧ some k_ ≠ (v925 : Value).ownBlock ∧ some k_ ≠ (.slice Ao34 t918.length co34 : Value).ownBlock) (Kd.R_keptB (HO932.out) hkp (fun k_ hk_ hs_ => (hk_.2) hs_)) (fun k_ hk_ => ⟨hk_.1.1.1.2, hk_.1.1.2, hk_.1.2⟩)); have n7_ := Aside0.mk (hb); clear HO_8; clear HO_11; clear HO_922001; clear BK904; clear BK905; clear BK921; clear HO932; clear HB; have HO_8 := n0_; have HO_11 := n1_; have HO_922001 := n2_; have BK904 := n3_; have BK905 := n4_; have BK921 := n5_; have HO932 := n6_; have HB := n7_; clear n0_ n1_ n2_ n3_ n4_ n5_ n6_ n7_; (try clear hb); (try clear hkp); (try clear hy0)))
            (try simp only [Act.put, List.setIfInBounds_toArray, List.set_cons_zero, List.set_cons_succ])
            go_cut [71] (fun v71 wc => ∃ (kq : Nat) (x71_49 : Bool), v71 = .bool x71_49 ∧ Aside0 (laws_FnExactUnliftSpace.j1 kq a1 t913 t916 t924 x71_49 a0_0 a0_1 a2_0 l2_1 = some r) ∧ Aside0 (kq ≤ kj16) ∧ Aside0 (Kd.R (Kd.int .i64) 2 wc w.heap.size (fun k_ => some k_ ≠ (v925 : Value).ownBlock ∧ some k_ ≠ ((.slice Ao34 t918.length co34) : Value).ownBlock) v914 t913) ∧ Aside0 (Kd.R (Kd.int .i64) 2 wc w.heap.size (fun k_ => some k_ ≠ (v914 : Value).ownBlock ∧ some k_ ≠ ((.slice Ao34 t918.length co34) : Value).ownBlock) v925 t924) ∧ Aside0 (Kd.R (Kd.int .i64) 2 wc w.heap.size (fun k_ => some k_ ≠ (v914 : Value).ownBlock ∧ some k_ ≠ (v925 : Value).ownBlock) (.slice Ao34 t918.length co34) t935) ∧ Aside0 (wc.heap[gb904]? = some (.cells #[.int .i64 a0_0, .int .i64 a0_1] 23 (0, 0))) ∧ Aside0 (wc.heap[gb905]? = some (.cells #[.int .i64 a2_0, (.slice A2_1 l2_1.length c2_1)] 54 (0, 0))) ∧ Aside0 (wc.heap[gb921]? = some (.cells #[.int .i64 t917, (.slice Ao34 t918.length co34)] 26 (0, 0))) ∧ Aside0 (Below w.heap.size w wc))
            case first =>
              have H := HC50.out
              clear HC50
              by_cases c59 : t934 < 0
              · rw [if_pos c59] at H
                have c59b0 : decide (t934 < 0) = true := decide_eq_true c59
                clear c59
                (first | rw [c59b0] | (simp only [i64_w, i32_w]; rw [c59b0]) | skip)
                have H' := Aside0.mk H
                clear H
                go_wp2
                go_meet
                case rel => exact ⟨_, (true), (by first | rfl | (simp; done) | (simp [*]; done)), H', ⟨by have := HJ16.out; first | omega | exact Nat.le_refl _⟩, ⟨by (with_reducible repeat (first | apply Kd.R_alloc | apply Kd.R_drewN | apply Kd.R_drew)); exact Kd.R_mono HO_8.out (fun _ hk => ⟨hk.1, hk.2.1⟩)⟩, ⟨by (with_reducible repeat (first | apply Kd.R_alloc | apply Kd.R_drewN | apply Kd.R_drew)); exact Kd.R_mono HO_11.out (fun _ hk => ⟨hk.1, hk.2.1⟩)⟩, ⟨by (with_reducible repeat (first | apply Kd.R_alloc | apply Kd.R_drewN | apply Kd.R_drew)); exact Kd.R_mono HO_922001.out (fun _ hk => ⟨hk.1.1, hk.1.2⟩)⟩, ⟨by (with_reducible repeat (first | refine blk_drewN ?_ _ | refine blk_drew ?_ | refine blk_alloc ?_ _)); exact BK904.out⟩, ⟨by (with_reducible repeat (first | refine blk_drewN ?_ _ | refine blk_drew ?_ | refine blk_alloc ?_ _)); exact BK905.out⟩, ⟨by (with_reducible repeat (first | refine blk_drewN ?_ _ | refine blk_drew ?_ | refine blk_alloc ?_ _)); exact BK921.out⟩, ⟨by repeat (first | (with_reducible first | exact HB.out | apply below_alloc | apply pw_below_drewN | apply below_drew1 | refine below_set ?_ GE904.out | refine below_set ?_ GE905.out | refine below_set ?_ GE921.out) | exact HB.out)⟩⟩
              · rw [if_neg c59] at H
                have c59b0 : decide (t934 < 0) = false := decide_eq_false c59
                clear c59
                (first | rw [c59b0] | (simp only [i64_w, i32_w]; rw [c59b0]) | skip)
                replace H := Option.bind_eq_some_iff.mp H
                obtain ⟨t936, A600, H⟩ := H
                replace H : (if t936 = true then (laws_FnExactUnliftSpace.j1 kj16 a1 t913 t916 t924 (t927 != t916) a0_0 a0_1 a2_0 l2_1) else (laws_FnExactUnliftSpace.j1 kj16 a1 t913 t916 t924 true a0_0 a0_1 a2_0 l2_1)) = some r := H
                have A60 := Aside0.mk A600
                clear A600
                by_cases c61 : t936 = true
                · subst c61
                  have H1 : (laws_FnExactUnliftSpace.j1 kj16 a1 t913 t916 t924 (t927 != t916) a0_0 a0_1 a2_0 l2_1) = some r := by rw [if_pos rfl] at H; exact H
                  clear H
                  have H := H1
                  clear H1
                  have H' := Aside0.mk H
                  clear H
                  obtain ⟨Ao62, co62, eo62⟩ := Kd.R_slice HO_11.out
                  subst eo62
                  obtain ⟨Ao63, co63, eo63⟩ := Kd.R_slice HO_8.out
                  subst eo63
                  go_wp2_with (first | (go_at_call 22; (with_reducible refine (laws_eqInt64S.calls kj16 _ _ t924 _ _ t913 true _ ?side1 ?side2 ?side3 ?side4 A60.out).mono ?_); (case side1 => repeat (first | exact (Kd.R_reads' HO_11.out).2.2 | (with_reducible refine Kd.C_alloc ?_ _) | (with_reducible refine Kd.C_drewN ?_ _) | (with_reducible refine Kd.C_drew ?_))); (case side2 => exact (Kd.R_reads' HO_11.out).2.1); (case side3 => repeat (first | exact (Kd.R_reads' HO_8.out).2.2 | (with_reducible refine Kd.C_alloc ?_ _) | (with_reducible refine Kd.C_drewN ?_ _) | (with_reducible refine Kd.C_drew ?_))); (case side4 => exact (Kd.R_reads' HO_8.out).2.1); rintro e w' ⟨rfl, ⟨nd, rfl⟩⟩))
                  go_meet
                  case rel => exact ⟨_, ((t927 != t916)), (by first | rfl | (simp; done) | (simp [*]; done)), H', ⟨by have := HJ16.out; first | omega | exact Nat.le_refl _⟩, ⟨by (with_reducible repeat (first | apply Kd.R_alloc | apply Kd.R_drewN | apply Kd.R_drew)); exact Kd.R_mono HO_8.out (fun _ hk => ⟨hk.1, hk.2.1⟩)⟩, ⟨by (with_reducible repeat (first | apply Kd.R_alloc | apply Kd.R_drewN | apply Kd.R_drew)); exact Kd.R_mono HO_11.out (fun _ hk => ⟨hk.1, hk.2.1⟩)⟩, ⟨by (with_reducible repeat (first | apply Kd.R_alloc | apply Kd.R_drewN | apply Kd.R_drew)); exact Kd.R_mono HO_922001.out (fun _ hk => ⟨hk.1.1, hk.1.2⟩)⟩, ⟨by (with_reducible repeat (first | refine blk_drewN ?_ _ | refine blk_drew ?_ | refine blk_alloc ?_ _)); exact BK904.out⟩, ⟨by (with_reducible repeat (first | refine blk_drewN ?_ _ | refine blk_drew ?_ | refine blk_alloc ?_ _)); exact BK905.out⟩, ⟨by (with_reducible repeat (first | refine blk_drewN ?_ _ | refine blk_drew ?_ | refine blk_alloc ?_ _)); exact BK921.out⟩, ⟨by repeat (first | (with_reducible first | exact HB.out | apply below_alloc | apply pw_below_drewN | apply below_drew1 | refine below_set ?_ GE904.out | refine below_set ?_ GE905.out | refine below_set ?_ GE921.out) | exact HB.out)⟩⟩
                · replace c61 := Bool.eq_false_iff.mpr c61
                  subst c61
                  have H1 : (laws_FnExactUnliftSpace.j1 kj16 a1 t913 t916 t924 true a0_0 a0_1 a2_0 l2_1) = some r := by rw [if_neg (show ¬ (false = true) by decide)] at H; exact H
                  clear H
                  have H := H1
                  clear H1
                  have H' := Aside0.mk H
                  clear H
                  obtain ⟨Ao64, co64, eo64⟩ := Kd.R_slice HO_11.out
                  subst eo64
                  obtain ⟨Ao65, co65, eo65⟩ := Kd.R_slice HO_8.out
                  subst eo65
                  go_wp2_with (first | (go_at_call 22; (with_reducible refine (laws_eqInt64S.calls kj16 _ _ t924 _ _ t913 false _ ?side1 ?side2 ?side3 ?side4 A60.out).mono ?_); (case side1 => repeat (first | exact (Kd.R_reads' HO_11.out).2.2 | (with_reducible refine Kd.C_alloc ?_ _) | (with_reducible refine Kd.C_drewN ?_ _) | (with_reducible refine Kd.C_drew ?_))); (case side2 => exact (Kd.R_reads' HO_11.out).2.1); (case side3 => repeat (first | exact (Kd.R_reads' HO_8.out).2.2 | (with_reducible refine Kd.C_alloc ?_ _) | (with_reducible refine Kd.C_drewN ?_ _) | (with_reducible refine Kd.C_drew ?_))); (case side4 => exact (Kd.R_reads' HO_8.out).2.1); rintro e w' ⟨rfl, ⟨nd, rfl⟩⟩))
                  go_meet
                  case rel => exact ⟨_, (true), (by first | rfl | (simp; done) | (simp [*]; done)), H', ⟨by have := HJ16.out; first | omega | exact Nat.le_refl _⟩, ⟨by (with_reducible repeat (first | apply Kd.R_alloc | apply Kd.R_drewN | apply Kd.R_drew)); exact Kd.R_mono HO_8.out (fun _ hk => ⟨hk.1, hk.2.1⟩)⟩, ⟨by (with_reducible repeat (first | apply Kd.R_alloc | apply Kd.R_drewN | apply Kd.R_drew)); exact Kd.R_mono HO_11.out (fun _ hk => ⟨hk.1, hk.2.1⟩)⟩, ⟨by (with_reducible repeat (first | apply Kd.R_alloc | apply Kd.R_drewN | apply Kd.R_drew)); exact Kd.R_mono HO_922001.out (fun _ hk => ⟨hk.1.1, hk.1.2⟩)⟩, ⟨by (with_reducible repeat (first | refine blk_drewN ?_ _ | refine blk_drew ?_ | refine blk_alloc ?_ _)); exact BK904.out⟩, ⟨by (with_reducible repeat (first | refine blk_drewN ?_ _ | refine blk_drew ?_ | refine blk_alloc ?_ _)); exact BK905.out⟩, ⟨by (with_reducible repeat (first | refine blk_drewN ?_ _ | refine blk_drew ?_ | refine blk_alloc ?_ _)); exact BK921.out⟩, ⟨by repeat (first | (with_reducible first | exact HB.out | apply below_alloc | apply pw_below_drewN | apply below_drew1 | refine below_set ?_ GE904.out | refine below_set ?_ GE905.out | refine below_set ?_ GE921.out) | exact HB.out)⟩⟩
            case rest =>
              clear HC50
              try clear c1
              try clear c2
              try clear p2
              try clear c3
              try clear c4
              try clear c5
              try clear c5b0
              try clear c6
              try clear c8
              try clear c12
              try clear c18
              try clear c20
              try clear c21
              try clear c22
              try clear c24
              try clear c31
              try clear c32
              try clear c40
              try clear c45
              try clear c47
              try clear c48
              try clear c49
              try clear c55
              try clear c56
              try clear c59
              try clear c59b0
              try clear c61
              try clear hcz21_0
              try clear hcz21_1
              try clear hcz28_0
              try clear hcz28_1
              try clear hcz33_0
              try clear hcz33_1
              try clear hcz57_0
              try clear hcz57_1
              try clear hcz9_0
              try clear hcz9_1
              try clear hfz21_0
              try clear hfz21_1
              try clear hfz28_0
              try clear hfz28_1
              try clear hfz33_0
              try clear hfz33_1
              try clear hfz57_0
              try clear hfz57_1
              try clear hfz9_0
              try clear hfz9_1
              try clear p2
              obtain ⟨kq, x71_49, rfl, HA, HJ49, HO_8, HO_11, HO_922001, BK904, BK905, BK921, HB⟩ := hcut
              have hl922001_49 := (Kd.R_reads' HO_922001.out).1
              rw [hl922001_49] at HO_922001
              (try simp only [hl922001_49])
              (try simp only [hl922001_49] at BK904)
              (try simp only [hl922001_49] at BK905)
              (try simp only [hl922001_49] at BK921)
              (try simp only [hl922001_49] at HO_8)
              (try simp only [hl922001_49] at HO_11)
              cases kq with
              | zero => exact absurd HA.out (by simp [laws_FnExactUnliftSpace.j1])
              | succ kj49 =>
                have H := HA.out
                clear HA
                simp only [laws_FnExactUnliftSpace.j1] at H
                by_cases c66 : x71_49 = true
                · subst c66
                  have H1 : (some false) = some r := by rw [if_pos rfl] at H; exact H
                  clear H
                  have H := H1
                  clear H1
                  obtain rfl := Option.some.inj H
                  go_wp2
                  go_ret
                  exact ⟨by first | rfl | (simp [errW_none, errW_some] <;> rfl) | (simp [*, errW_none, errW_some] <;> rfl), by repeat (first | (with_reducible first | exact HB.out | apply below_alloc | apply pw_below_drewN | apply below_drew1 | refine below_set ?_ GE904.out | refine below_set ?_ GE905.out | refine below_set ?_ GE921.out) | exact HB.out)⟩
                · replace c66 := Bool.eq_false_iff.mpr c66
                  subst c66
                  have H1 : ((laws_markInt64S.f kj49 t924 1).bind fun bt937 => ((laws_heldInt64S.f kj49 bt937.2 1).bind fun t939 => (if t939 < 0 then (some false) else (if t939 = bt937.1 then ((laws_toField.f a0_0 a0_1).bind fun bt940 => ((laws_toMatrix.f kj49 a2_0 l2_1).bind fun bt942 => ((impl_UnliftSpace.f kj49 bt940.1 bt940.2 a1 bt942.1 bt942.2).bind fun bt946 => ((laws_eqInt64S.f kj49 bt946.1 t913).bind fun t950 => (if t950 = true then (laws_FnExactUnliftSpace.j2 kj49 bt937.2 bt937.1 (bt946.2 != t916)) else (laws_FnExactUnliftSpace.j2 kj49 bt937.2 bt937.1 true)))))) else (some false))))) = some r := by rw [if_neg (show ¬ (false = true) by decide)] at H; exact H
                  clear H
                  have H := H1
                  clear H1
                  replace H := Option.bind_eq_some_iff.mp H
                  obtain ⟨⟨t937, t938⟩, A670, H⟩ := H
                  replace H : ((laws_heldInt64S.f kj49 t938 1).bind fun t939 => (if t939 < 0 then (some false) else (if t939 = t937 then ((laws_toField.f a0_0 a0_1).bind fun bt940 => ((laws_toMatrix.f kj49 a2_0 l2_1).bind fun bt942 => ((impl_UnliftSpace.f kj49 bt940.1 bt940.2 a1 bt942.1 bt942.2).bind fun bt946 => ((laws_eqInt64S.f kj49 bt946.1 t913).bind fun t950 => (if t950 = true then (laws_FnExactUnliftSpace.j2 kj49 t938 t937 (bt946.2 != t916)) else (laws_FnExactUnliftSpace.j2 kj49 t938 t937 true)))))) else (some false)))) = some r := H
                  have A67 := Aside0.mk A670
                  clear A670
                  replace H := Option.bind_eq_some_iff.mp H
                  obtain ⟨t939, A680, H⟩ := H
                  replace H : (if t939 < 0 then (some false) else (if t939 = t937 then ((laws_toField.f a0_0 a0_1).bind fun bt940 => ((laws_toMatrix.f kj49 a2_0 l2_1).bind fun bt942 => ((impl_UnliftSpace.f kj49 bt940.1 bt940.2 a1 bt942.1 bt942.2).bind fun bt946 => ((laws_eqInt64S.f kj49 bt946.1 t913).bind fun t950 => (if t950 = true then (laws_FnExactUnliftSpace.j2 kj49 t938 t937 (bt946.2 != t916)) else (laws_FnExactUnliftSpace.j2 kj49 t938 t937 true)))))) else (some false))) = some r := H
                  have A68 := Aside0.mk A680
                  clear A680
                  by_cases c69 : t939 < 0
                  · rw [if_pos c69] at H
                    have c69b0 : decide (t939 < 0) = true := decide_eq_true c69
                    clear c69
                    (try (have c69b0z := c69b0; simp only [hl922001_49] at c69b0z))
                    obtain rfl := Option.some.inj H
                    obtain ⟨Ao70, co70, eo70⟩ := Kd.R_slice HO_11.out
                    subst eo70
                    go_wp2_with (first | ((with_reducible refine gate_callee (f := 23) rfl ?_); refine goesL_ (some 74) rfl rfl Try.func23 (by kernel_rfl) rfl #[.slice Ao70 t924.length co70, .int .i64 1] rfl (by (try simp only [List.map_toArray, List.map_cons, List.map_nil]); first | done | rfl | (simp only [List.length_drop, List.length_take]; rfl)) ?_; (with_reducible refine (laws_markInt64S.calls kj49 (fun k_ => some k_ = (.slice Ao70 t924.length co70 : Value).ownBlock) (.slice Ao70 t924.length co70) t924 1 t937 t938 w _ ?side1 ?side2 A67.out).mono ?_); (case side1 => repeat (first | (with_reducible first | exact HB.out | apply below_alloc | apply pw_below_drewN | apply below_drew1 | refine below_set ?_ GE904.out | refine below_set ?_ GE905.out | refine below_set ?_ GE921.out) | exact HB.out)); (case side2 => exact Kd.R_tight rfl HO_11.out); rintro e w71 ⟨rfl, hy0, hb, hkp⟩; refine ⟨_, rfl, ?_⟩; have n0_ := Aside0.mk (Kd.R_mono (ok' := fun k_ => some k_ ≠ (.slice Ao70 t924.length co70 : Value).ownBlock ∧ some k_ ≠ (.slice Ao34 t935.length co34 : Value).ownBlock) (Kd.R_keptB (HO_8.out) hkp (fun k_ hk_ hs_ => (hk_.1) hs_)) (fun k_ hk_ => ⟨hk_.1.1, hk_.1.2⟩)); have n1_ := Aside0.mk (Kd.R_reok rfl hy0 (fun k_ e_ => HO_11.out.1 k_ e_)); have n2_ := Aside0.mk (Kd.R_mono (ok' := fun k_ => some k_ ≠ (v914 : Value).ownBlock ∧ some k_ ≠ (.slice Ao70 t924.length co70 : Value).ownBlock) (Kd.R_keptB (HO_922001.out) hkp (fun k_ hk_ hs_ => (hk_.2) hs_)) (fun k_ hk_ => ⟨hk_.1.1, hk_.1.2⟩)); have n3_ := Aside0.mk (blk_kept (by (with_reducible repeat (first | refine blk_drewN ?_ _ | refine blk_drew ?_ | refine blk_alloc ?_ _)); exact BK904.out) hkp (fun hs_ => (fun e_ => (Kd.R_ne HO_11.out BK904.out (by decide)) e_) hs_)); have n4_ := Aside0.mk (blk_kept (by (with_reducible repeat (first | refine blk_drewN ?_ _ | refine blk_drew ?_ | refine blk_alloc ?_ _)); exact BK905.out) hkp (fun hs_ => (fun e_ => (Kd.R_ne HO_11.out BK905.out (by decide)) e_) hs_)); have n5_ := Aside0.mk (blk_kept (by (with_reducible repeat (first | refine blk_drewN ?_ _ | refine blk_drew ?_ | refine blk_alloc ?_ _)); exact BK921.out) hkp (fun hs_ => (fun e_ => (Kd.R_ne HO_11.out BK921.out (by decide)) e_) hs_)); have n6_ := Aside0.mk (hb); clear HO_8; clear HO_11; clear HO_922001; clear BK904; clear BK905; clear BK921; clear HB; have HO_8 := n0_; have HO_11 := n1_; have HO_922001 := n2_; have BK904 := n3_; have BK905 := n4_; have BK921 := n5_; have HB := n6_; clear n0_ n1_ n2_ n3_ n4_ n5_ n6_; (try clear hb); (try clear hkp); (try clear hy0)) | ((with_reducible refine gate_callee (f := 32) rfl ?_); refine goesL_ (some 77) rfl rfl Try.func32 (by kernel_rfl) rfl #[.slice Ao70 t938.length co70, .int .i64 1] rfl (by (try simp only [List.map_toArray, List.map_cons, List.map_nil]); first | done | (rw [show t938.length = t924.length from (Kd.R_reads' HO_11.out).1.symm] <;> rfl) | rfl | (simp only [List.length_drop, List.length_take]; rfl)) ?_; (with_reducible refine (laws_heldInt64S.calls kj49 _ _ t938 1 t939 _ ?side1 ?side2 A68.out).mono ?_); (case side1 => repeat (first | exact (Kd.R_reads' HO_11.out).2.2 | (with_reducible refine Kd.C_alloc ?_ _) | (with_reducible refine Kd.C_drewN ?_ _) | (with_reducible refine Kd.C_drew ?_))); (case side2 => rw [show t938.length = t924.length from (Kd.R_reads' HO_11.out).1.symm]; exact (Kd.R_reads' HO_11.out).2.1); rintro e w' ⟨rfl, ⟨nd, rfl⟩⟩; refine ⟨_, rfl, ?_⟩))
                    go_ret
                    exact ⟨by first | rfl | (simp [errW_none, errW_some] <;> rfl) | (simp [*, errW_none, errW_some] <;> rfl), by repeat (first | (with_reducible first | exact HB.out | apply below_alloc | apply pw_below_drewN | apply below_drew1 | refine below_set ?_ GE904.out | refine below_set ?_ GE905.out | refine below_set ?_ GE921.out) | exact HB.out)⟩
                  · rw [if_neg c69] at H
                    have c69b0 : decide (t939 < 0) = false := decide_eq_false c69
                    clear c69
                    (try (have c69b0z := c69b0; simp only [hl922001_49] at c69b0z))
                    by_cases c72 : t939 = t937
                    · rw [if_pos c72] at H
                      have c72b0 : (t939 == t937) = true := beq_iff_eq.mpr c72
                      have c72b1 : (t939 != t937) = false := bne_eq_false_iff_eq.mpr c72
                      clear c72
                      (try (have c72b0z := c72b0; simp only [hl922001_49] at c72b0z))
                      (try (have c72b1z := c72b1; simp only [hl922001_49] at c72b1z))
                      replace H := Option.bind_eq_some_iff.mp H
                      obtain ⟨⟨t940, t941⟩, A730, H⟩ := H
                      replace H : ((laws_toMatrix.f kj49 a2_0 l2_1).bind fun bt942 => ((impl_UnliftSpace.f kj49 t940 t941 a1 bt942.1 bt942.2).bind fun bt946 => ((laws_eqInt64S.f kj49 bt946.1 t913).bind fun t950 => (if t950 = true then (laws_FnExactUnliftSpace.j2 kj49 t938 t937 (bt946.2 != t916)) else (laws_FnExactUnliftSpace.j2 kj49 t938 t937 true))))) = some r := H
                      have A73 := Aside0.mk A730
                      clear A730
                      replace H := Option.bind_eq_some_iff.mp H
                      obtain ⟨⟨t942, t943⟩, A740, H⟩ := H
                      replace H : ((impl_UnliftSpace.f kj49 t940 t941 a1 t942 t943).bind fun bt946 => ((laws_eqInt64S.f kj49 bt946.1 t913).bind fun t950 => (if t950 = true then (laws_FnExactUnliftSpace.j2 kj49 t938 t937 (bt946.2 != t916)) else (laws_FnExactUnliftSpace.j2 kj49 t938 t937 true)))) = some r := H
                      have A74 := Aside0.mk A740
                      clear A740
                      replace H := Option.bind_eq_some_iff.mp H
                      obtain ⟨⟨t946, t949⟩, A750, H⟩ := H
                      replace H : ((laws_eqInt64S.f kj49 t946 t913).bind fun t950 => (if t950 = true then (laws_FnExactUnliftSpace.j2 kj49 t938 t937 (t949 != t916)) else (laws_FnExactUnliftSpace.j2 kj49 t938 t937 true))) = some r := H
                      have A75 := Aside0.mk A750
                      clear A750
                      have HC76 := Aside0.mk H
                      clear H
                      obtain ⟨Ao77, co77, eo77⟩ := Kd.R_slice HO_11.out
                      subst eo77
                      try go_wp2_with (first | ((with_reducible refine gate_callee (f := 23) rfl ?_); refine goesL_ (some 74) rfl rfl Try.func23 (by kernel_rfl) rfl #[.slice Ao77 t924.length co77, .int .i64 1] rfl (by (try simp only [List.map_toArray, List.map_cons, List.map_nil]); first | done | rfl | (simp only [List.length_drop, List.length_take]; rfl)) ?_; (with_reducible refine (laws_markInt64S.calls kj49 (fun k_ => some k_ = (.slice Ao77 t924.length co77 : Value).ownBlock) (.slice Ao77 t924.length co77) t924 1 t937 t938 w _ ?side1 ?side2 A67.out).mono ?_); (case side1 => repeat (first | (with_reducible first | exact HB.out | apply below_alloc | apply pw_below_drewN | apply below_drew1 | refine below_set ?_ GE904.out | refine below_set ?_ GE905.out | refine below_set ?_ GE921.out) | exact HB.out)); (case side2 => exact Kd.R_tight rfl HO_11.out); rintro e w78 ⟨rfl, hy0, hb, hkp⟩; refine ⟨_, rfl, ?_⟩; have n0_ := Aside0.mk (Kd.R_mono (ok' := fun k_ => some k_ ≠ (.slice Ao77 t924.length co77 : Value).ownBlock ∧ some k_ ≠ (.slice Ao34 t935.length co34 : Value).ownBlock) (Kd.R_keptB (HO_8.out) hkp (fun k_ hk_ hs_ => (hk_.1) hs_)) (fun k_ hk_ => ⟨hk_.1.1, hk_.1.2⟩)); have n1_ := Aside0.mk (Kd.R_reok rfl hy0 (fun k_ e_ => HO_11.out.1 k_ e_)); have n2_ := Aside0.mk (Kd.R_mono (ok' := fun k_ => some k_ ≠ (v914 : Value).ownBlock ∧ some k_ ≠ (.slice Ao77 t924.length co77 : Value).ownBlock) (Kd.R_keptB (HO_922001.out) hkp (fun k_ hk_ hs_ => (hk_.2) hs_)) (fun k_ hk_ => ⟨hk_.1.1, hk_.1.2⟩)); have n3_ := Aside0.mk (blk_kept (by (with_reducible repeat (first | refine blk_drewN ?_ _ | refine blk_drew ?_ | refine blk_alloc ?_ _)); exact BK904.out) hkp (fun hs_ => (fun e_ => (Kd.R_ne HO_11.out BK904.out (by decide)) e_) hs_)); have n4_ := Aside0.mk (blk_kept (by (with_reducible repeat (first | refine blk_drewN ?_ _ | refine blk_drew ?_ | refine blk_alloc ?_ _)); exact BK905.out) hkp (fun hs_ => (fun e_ => (Kd.R_ne HO_11.out BK905.out (by decide)) e_) hs_)); have n5_ := Aside0.mk (blk_kept (by (with_reducible repeat (first | refine blk_drewN ?_ _ | refine blk_drew ?_ | refine blk_alloc ?_ _)); exact BK921.out) hkp (fun hs_ => (fun e_ => (Kd.R_ne HO_11.out BK921.out (by decide)) e_) hs_)); have n6_ := Aside0.mk (hb); clear HO_8; clear HO_11; clear HO_922001; clear BK904; clear BK905; clear BK921; clear HB; have HO_8 := n0_; have HO_11 := n1_; have HO_922001 := n2_; have BK904 := n3_; have BK905 := n4_; have BK921 := n5_; have HB := n6_; clear n0_ n1_ n2_ n3_ n4_ n5_ n6_; (try clear hb); (try clear hkp); (try clear hy0)) | ((with_reducible refine gate_callee (f := 32) rfl ?_); refine goesL_ (some 77) rfl rfl Try.func32 (by kernel_rfl) rfl #[.slice Ao77 t938.length co77, .int .i64 1] rfl (by (try simp only [List.map_toArray, List.map_cons, List.map_nil]); first | done | (rw [show t938.length = t924.length from (Kd.R_reads' HO_11.out).1.symm] <;> rfl) | rfl | (simp only [List.length_drop, List.length_take]; rfl)) ?_; (with_reducible refine (laws_heldInt64S.calls kj49 _ _ t938 1 t939 _ ?side1 ?side2 A68.out).mono ?_); (case side1 => repeat (first | exact (Kd.R_reads' HO_11.out).2.2 | (with_reducible refine Kd.C_alloc ?_ _) | (with_reducible refine Kd.C_drewN ?_ _) | (with_reducible refine Kd.C_drew ?_))); (case side2 => rw [show t938.length = t924.length from (Kd.R_reads' HO_11.out).1.symm]; exact (Kd.R_reads' HO_11.out).2.1); rintro e w' ⟨rfl, ⟨nd, rfl⟩⟩; refine ⟨_, rfl, ?_⟩))
                      (try (rw [drewN_self w78]; generalize hq_ : World.drewN w78 _ = w78; have n0_ : Aside0 (Kd.R (Kd.int .i64) 2 w78 w.heap.size (fun k_ => (some k_ ≠ (v914 : Value).ownBlock ∧ some k_ ≠ (.slice Ao34 t935.length co34 : Value).ownBlock)) (.slice Ao77 t924.length co77) t938) := ⟨by rw [← hq_]; exact (by (with_reducible repeat (first | apply Kd.R_alloc | apply Kd.R_drewN | apply Kd.R_drew)); exact HO_11.out)⟩; have n1_ : Aside0 (Kd.R (Kd.int .i64) 2 w78 w.heap.size (fun k_ => (some k_ ≠ (.slice Ao77 t924.length co77 : Value).ownBlock ∧ some k_ ≠ (.slice Ao34 t935.length co34 : Value).ownBlock)) v914 t913) := ⟨by rw [← hq_]; exact (by (with_reducible repeat (first | apply Kd.R_alloc | apply Kd.R_drewN | apply Kd.R_drew)); exact HO_8.out)⟩; have n2_ : Aside0 (Kd.R (Kd.int .i64) 2 w78 w.heap.size (fun k_ => (some k_ ≠ (v914 : Value).ownBlock ∧ some k_ ≠ (.slice Ao77 t924.length co77 : Value).ownBlock)) (.slice Ao34 t935.length co34) t935) := ⟨by rw [← hq_]; exact (by (with_reducible repeat (first | apply Kd.R_alloc | apply Kd.R_drewN | apply Kd.R_drew)); exact HO_922001.out)⟩; have n3_ : Aside0 (w78.heap[gb904]? = some (.cells #[.int .i64 a0_0, .int .i64 a0_1] 23 (0, 0))) := ⟨by rw [← hq_]; exact (by (with_reducible repeat (first | refine blk_drewN ?_ _ | refine blk_drew ?_ | refine blk_alloc ?_ _)); exact BK904.out)⟩; have n4_ : Aside0 (w78.heap[gb905]? = some (.cells #[.int .i64 a2_0, .slice A2_1 l2_1.length c2_1] 54 (0, 0))) := ⟨by rw [← hq_]; exact (by (with_reducible repeat (first | refine blk_drewN ?_ _ | refine blk_drew ?_ | refine blk_alloc ?_ _)); exact BK905.out)⟩; have n5_ : Aside0 (w78.heap[gb921]? = some (.cells #[.int .i64 t917, .slice Ao34 t935.length co34] 26 (0, 0))) := ⟨by rw [← hq_]; exact (by (with_reducible repeat (first | refine blk_drewN ?_ _ | refine blk_drew ?_ | refine blk_alloc ?_ _)); exact BK921.out)⟩; have n6_ : Aside0 (Below w.heap.size w w78) := ⟨by rw [← hq_]; exact (by repeat (first | (with_reducible first | exact HB.out | apply below_alloc | apply pw_below_drewN | apply below_drew1 | refine below_set ?_ GE904.out | refine below_set ?_ GE905.out | refine below_set ?_ GE921.out) | exact HB.out))⟩; clear HO_11 HO_8 HO_922001 BK904 BK905 BK921 HB hq_; have HO_11 := n0_; have HO_8 := n1_; have HO_922001 := n2_; have BK904 := n3_; have BK905 := n4_; have BK921 := n5_; have HB := n6_; clear n0_ n1_ n2_ n3_ n4_ n5_ n6_))
                      have n0_ := Aside0.mk (Kd.R_drew HO_8.out)
                      have n1_ := Aside0.mk (Kd.R_drew HO_11.out)
                      have n2_ := Aside0.mk (Kd.R_drew HO_922001.out)
                      have n3_ := Aside0.mk (blk_drew BK904.out)
                      have n4_ := Aside0.mk (blk_drew BK905.out)
                      have n5_ := Aside0.mk (blk_drew BK921.out)
                      have n6_ := Aside0.mk (below_drew1 HB.out)
                      clear HO_8
                      clear HO_11
                      clear HO_922001
                      clear BK904
                      clear BK905
                      clear BK921
                      clear HB
                      have HO_8 := n0_
                      have HO_11 := n1_
                      have HO_922001 := n2_
                      have BK904 := n3_
                      have BK905 := n4_
                      have BK921 := n5_
                      have HB := n6_
                      clear n0_ n1_ n2_ n3_ n4_ n5_ n6_
                      refine start_ (n := 11) (S := fun w' => w'.cell? ⟨gb904, 0, none⟩ = some (.int .i64 a0_0) ∧ w'.cell? ⟨gb904, 1, none⟩ = some (.int .i64 a0_1) ∧ w'.cell? ⟨gb905, 0, none⟩ = some (.int .i64 a2_0) ∧ w'.cell? ⟨gb905, 1, none⟩ = some (.slice A2_1 l2_1.length c2_1)) (ds := []) #[false, false, false, false, false, false, false, false, false, false, false] (by kernel_rfl) rfl rfl ⟨(blk_cell BK904.out 0).trans rfl, (blk_cell BK904.out 1).trans rfl, (blk_cell BK905.out 0).trans rfl, (blk_cell BK905.out 1).trans rfl⟩ (fun hHeld => ?_); refine with_tabW laws_FnExactUnliftSpace.tab24 laws_FnExactUnliftSpace.bits24 (fun HT_ HW_ => ?_)
                      generalize w78.drew = w79 at HO_8 HO_11 HO_922001 BK904 BK905 BK921 HB hHeld ⊢
                      refine pure_ (i := 2) (N := some 86) (v := ?_) (a' := ?_) #[false, false, true, false, false, false, false, false, false, false, false] rfl rfl (any_of HT_.out (by kernel_rfl)) (fun _ _ _ h => h) (Or.inl ⟨by rfl, ?_⟩) ?_ ?_
                      rotate_left
                      · intro w'
                        go_simp
                        with_reducible rfl
                      rotate_left
                      · simp only [Act.put, List.setIfInBounds_toArray, List.set_cons_zero, List.set_cons_succ, i64_w, i32_w]
                        rfl
                      refine take_ (i := 0) (N := some 84) (v := ?_) (a' := ?_) #[true, false, true, false, false, false, false, false, false, false, false] rfl rfl (take_ofW HT_.out HW_.out (by kernel_rfl)) (fun _ _ _ h => h) (Or.inl ⟨by rfl, ?_⟩) hHeld ?_ ?_
                      rotate_left
                      · rintro w' ⟨s0, s1, s2, s3⟩
                        go_simp
                        with_reducible rfl
                      rotate_left
                      · simp only [Act.put, List.setIfInBounds_toArray, List.set_cons_zero, List.set_cons_succ, i64_w, i32_w]
                        rfl
                      refine take_ (i := 3) (N := some 87) (v := ?_) (a' := ?_) #[true, false, true, true, false, false, false, false, false, false, false] rfl rfl (take_ofW HT_.out HW_.out (by kernel_rfl)) (fun _ _ _ h => h) (Or.inl ⟨by rfl, ?_⟩) hHeld ?_ ?_
                      rotate_left
                      · rintro w' ⟨s0, s1, s2, s3⟩
                        go_simp
                        with_reducible rfl
                      rotate_left
                      · simp only [Act.put, List.setIfInBounds_toArray, List.set_cons_zero, List.set_cons_succ, i64_w, i32_w]
                        rfl
                      refine one_ (i := 1) (N := some 85) #[true, true, true, true, false, false, false, false, false, false, false] rfl rfl (one_of HT_.out (by kernel_rfl)) (by decide) (fun K hK => ?_)
                      refine goes_ Try.func18 (by kernel_rfl) rfl #[.agg #[.int .i64 a0_0, .int .i64 a0_1]] (by rfl) rfl rfl (by (try simp only [List.map_toArray, List.map_cons, List.map_nil]); first | done | rfl | (simp only [List.length_drop, List.length_take]; rfl)) ?_
                      with_reducible refine (laws_toField.calls a0_0 a0_1 t940 t941 _ A73.out).mono ?_
                      rintro e w80 ⟨rfl, hb⟩
                      refine ⟨_, rfl, ?_⟩
                      have n0_ := Aside0.mk (Kd.R_below (by (with_reducible repeat (first | apply Kd.R_alloc | apply Kd.R_drewN | apply Kd.R_drew)); exact HO_8.out) hb)
                      have n1_ := Aside0.mk (Kd.R_below (by (with_reducible repeat (first | apply Kd.R_alloc | apply Kd.R_drewN | apply Kd.R_drew)); exact HO_11.out) hb)
                      have n2_ := Aside0.mk (Kd.R_below (by (with_reducible repeat (first | apply Kd.R_alloc | apply Kd.R_drewN | apply Kd.R_drew)); exact HO_922001.out) hb)
                      have n3_ := Aside0.mk (blk_below (g := gb904) (o := .cells #[.int .i64 a0_0, .int .i64 a0_1] 23 (0, 0)) (by (with_reducible repeat (first | refine blk_drewN ?_ _ | refine blk_drew ?_ | refine blk_alloc ?_ _)); exact BK904.out) hb)
                      have n4_ := Aside0.mk (blk_below (g := gb905) (o := .cells #[.int .i64 a2_0, .slice A2_1 l2_1.length c2_1] 54 (0, 0)) (by (with_reducible repeat (first | refine blk_drewN ?_ _ | refine blk_drew ?_ | refine blk_alloc ?_ _)); exact BK905.out) hb)
                      have n5_ := Aside0.mk (blk_below (g := gb921) (o := .cells #[.int .i64 t917, .slice Ao34 t935.length co34] 26 (0, 0)) (by (with_reducible repeat (first | refine blk_drewN ?_ _ | refine blk_drew ?_ | refine blk_alloc ?_ _)); exact BK921.out) hb)
                      have n6_ := Aside0.mk (below_step (by repeat (first | (with_reducible first | exact HB.out | apply below_alloc | apply pw_below_drewN | apply below_drew1 | refine below_set ?_ GE904.out | refine below_set ?_ GE905.out | refine below_set ?_ GE921.out) | exact HB.out)) hb)
                      clear HO_8
                      clear HO_11
                      clear HO_922001
                      clear BK904
                      clear BK905
                      clear BK921
                      clear HB
                      have HO_8 := n0_
                      have HO_11 := n1_
                      have HO_922001 := n2_
                      have BK904 := n3_
                      have BK905 := n4_
                      have BK921 := n5_
                      have HB := n6_
                      clear n0_ n1_ n2_ n3_ n4_ n5_ n6_
                      (try clear hb)
                      (try clear hb2)
                      (try clear hk)
                      (try clear hi)
                      refine hK.out _ _ ⟨(blk_cell BK904.out 0).trans rfl, (blk_cell BK904.out 1).trans rfl, (blk_cell BK905.out 0).trans rfl, (blk_cell BK905.out 1).trans rfl⟩ (fun hHeld => ?_)
                      clear hK K
                      refine norm_ (a' := ?_) ?_ ?_
                      rotate_left
                      · show Act.put _ (some 85) _ = _
                        simp only [Act.put, List.setIfInBounds_toArray, List.set_cons_zero, List.set_cons_succ, i64_w, i32_w]
                        rfl
                      refine one_ (i := 4) (N := some 88) #[true, true, true, true, true, false, false, false, false, false, false] rfl rfl (one_of HT_.out (by kernel_rfl)) (by decide) (fun K hK => ?_)
                      refine goes_ Try.func48 (by kernel_rfl) rfl #[.agg #[.int .i64 a2_0, .slice A2_1 l2_1.length c2_1]] (by rfl) rfl rfl (by (try simp only [List.map_toArray, List.map_cons, List.map_nil]); first | done | rfl | (simp only [List.length_drop, List.length_take]; rfl)) ?_
                      with_reducible refine (laws_toMatrix.calls kj49 a2_0 _ _ l2_1 t942 t943 _ ?side1 ?side2 A74.out).mono ?_
                      (case side1 => repeat (first | exact (Kd.C_below HR2_1.out HB.out) | (with_reducible refine Kd.C_alloc ?_ _) | (with_reducible refine Kd.C_drewN ?_ _) | (with_reducible refine Kd.C_drew ?_)))
                      (case side2 => exact HC2_1.out)
                      rintro e w81 ⟨v944, rfl, ho0, hb⟩
                      refine ⟨_, rfl, ?_⟩
                      have n0_ := Aside0.mk (Kd.R_elder' (by (with_reducible repeat (first | apply Kd.R_alloc | apply Kd.R_drewN | apply Kd.R_drew)); exact HO_8.out) (Kd.R_base ho0) hb)
                      have n1_ := Aside0.mk (Kd.R_elder' (by (with_reducible repeat (first | apply Kd.R_alloc | apply Kd.R_drewN | apply Kd.R_drew)); exact HO_11.out) (Kd.R_base ho0) hb)
                      have n2_ := Aside0.mk (Kd.R_elder' (by (with_reducible repeat (first | apply Kd.R_alloc | apply Kd.R_drewN | apply Kd.R_drew)); exact HO_922001.out) (Kd.R_base ho0) hb)
                      have n3_ := Aside0.mk (Kd.R_lower (Kd.R_new' (Kd.R_new' (Kd.R_new' ho0 (Kd.R_lt (by (with_reducible repeat (first | apply Kd.R_alloc | apply Kd.R_drewN | apply Kd.R_drew)); exact HO_8.out))) (Kd.R_lt (by (with_reducible repeat (first | apply Kd.R_alloc | apply Kd.R_drewN | apply Kd.R_drew)); exact HO_11.out))) (Kd.R_lt (by (with_reducible repeat (first | apply Kd.R_alloc | apply Kd.R_drewN | apply Kd.R_drew)); exact HO_922001.out))) (below_size (by repeat (first | (with_reducible first | exact HB.out | apply below_alloc | apply pw_below_drewN | apply below_drew1 | refine below_set ?_ GE904.out | refine below_set ?_ GE905.out | refine below_set ?_ GE921.out) | exact HB.out))))
                      have n4_ := Aside0.mk (blk_below (g := gb904) (o := .cells #[.int .i64 a0_0, .int .i64 a0_1] 23 (0, 0)) (by (with_reducible repeat (first | refine blk_drewN ?_ _ | refine blk_drew ?_ | refine blk_alloc ?_ _)); exact BK904.out) hb)
                      have n5_ := Aside0.mk (blk_below (g := gb905) (o := .cells #[.int .i64 a2_0, .slice A2_1 l2_1.length c2_1] 54 (0, 0)) (by (with_reducible repeat (first | refine blk_drewN ?_ _ | refine blk_drew ?_ | refine blk_alloc ?_ _)); exact BK905.out) hb)
                      have n6_ := Aside0.mk (blk_below (g := gb921) (o := .cells #[.int .i64 t917, .slice Ao34 t935.length co34] 26 (0, 0)) (by (with_reducible repeat (first | refine blk_drewN ?_ _ | refine blk_drew ?_ | refine blk_alloc ?_ _)); exact BK921.out) hb)
                      have n7_ := Aside0.mk (below_step (by repeat (first | (with_reducible first | exact HB.out | apply below_alloc | apply pw_below_drewN | apply below_drew1 | refine below_set ?_ GE904.out | refine below_set ?_ GE905.out | refine below_set ?_ GE921.out) | exact HB.out)) hb)
                      clear HO_8
                      clear HO_11
                      clear HO_922001
                      clear BK904
                      clear BK905
                      clear BK921
                      clear HB
                      have HO_8 := n0_
                      have HO_11 := n1_
                      have HO_922001 := n2_
                      have HO945 := n3_
                      have BK904 := n4_
                      have BK905 := n5_
                      have BK921 := n6_
                      have HB := n7_
                      clear n0_ n1_ n2_ n3_ n4_ n5_ n6_ n7_
                      (try clear hb)
                      (try clear hb2)
                      (try clear hk)
                      (try clear hi)
                      (try clear ho0)
                      obtain ⟨Ao82, co82, eo82⟩ := Kd.R_slice HO945.out
                      (first | subst eo82 | (injection eo82 with f1_ f2_ f3_; have f4_ := f1_.symm; have f5_ := f3_.symm; clear f1_ f2_ f3_; subst f4_; subst f5_))
                      refine hK.out _ _ ⟨(blk_cell BK904.out 0).trans rfl, (blk_cell BK904.out 1).trans rfl, (blk_cell BK905.out 0).trans rfl, (blk_cell BK905.out 1).trans rfl⟩ (fun hHeld => ?_)
                      clear hK K
                      refine norm_ (a' := ?_) ?_ ?_
                      rotate_left
                      · show Act.put _ (some 88) _ = _
                        simp only [Act.put, List.setIfInBounds_toArray, List.set_cons_zero, List.set_cons_succ, i64_w, i32_w]
                        rfl
                      refine one_ (i := 5) (N := some 89) #[true, true, true, true, true, true, false, false, false, false, false] rfl rfl (one_of HT_.out (by kernel_rfl)) (by decide) (fun K hK => ?_)
                      refine goes_ Try.func49 (by kernel_rfl) rfl #[.agg #[.int .i64 t940, .int .i64 t941], .int .i64 a1, .agg #[.int .i64 t942, .slice Ao82 t943.length co82]] (by rfl) rfl rfl (by (try simp only [List.map_toArray, List.map_cons, List.map_nil]); first | done | rfl | (simp only [List.length_drop, List.length_take]; rfl)) ?_
                      with_reducible refine (impl_UnliftSpace.calls kj49 t940 t941 a1 t942 _ _ t943 t946 t949 _ ?side1 ?side2 A75.out).mono ?_
                      (case side1 => repeat (first | exact (Kd.R_reads' HO945.out).2.2 | (with_reducible refine Kd.C_alloc ?_ _) | (with_reducible refine Kd.C_drewN ?_ _) | (with_reducible refine Kd.C_drew ?_)))
                      (case side2 => exact (Kd.R_reads' HO945.out).2.1)
                      rintro e w83 ⟨v947, rfl, ho0, hb⟩
                      refine ⟨_, rfl, ?_⟩
                      have n0_ := Aside0.mk (Kd.R_elder' (by (with_reducible repeat (first | apply Kd.R_alloc | apply Kd.R_drewN | apply Kd.R_drew)); exact HO_8.out) (Kd.R_base ho0) hb)
                      have n1_ := Aside0.mk (Kd.R_elder' (by (with_reducible repeat (first | apply Kd.R_alloc | apply Kd.R_drewN | apply Kd.R_drew)); exact HO_11.out) (Kd.R_base ho0) hb)
                      have n2_ := Aside0.mk (Kd.R_elder' (by (with_reducible repeat (first | apply Kd.R_alloc | apply Kd.R_drewN | apply Kd.R_drew)); exact HO_922001.out) (Kd.R_base ho0) hb)
                      have n3_ := Aside0.mk (Kd.R_elder' (by (with_reducible repeat (first | apply Kd.R_alloc | apply Kd.R_drewN | apply Kd.R_drew)); exact HO945.out) (Kd.R_base ho0) hb)
                      have n4_ := Aside0.mk (Kd.R_lower (Kd.R_new' (Kd.R_new' (Kd.R_new' (Kd.R_new' ho0 (Kd.R_lt (by (with_reducible repeat (first | apply Kd.R_alloc | apply Kd.R_drewN | apply Kd.R_drew)); exact HO_8.out))) (Kd.R_lt (by (with_reducible repeat (first | apply Kd.R_alloc | apply Kd.R_drewN | apply Kd.R_drew)); exact HO_11.out))) (Kd.R_lt (by (with_reducible repeat (first | apply Kd.R_alloc | apply Kd.R_drewN | apply Kd.R_drew)); exact HO_922001.out))) (Kd.R_lt (by (with_reducible repeat (first | apply Kd.R_alloc | apply Kd.R_drewN | apply Kd.R_drew)); exact HO945.out))) (below_size (by repeat (first | (with_reducible first | exact HB.out | apply below_alloc | apply pw_below_drewN | apply below_drew1 | refine below_set ?_ GE904.out | refine below_set ?_ GE905.out | refine below_set ?_ GE921.out) | exact HB.out))))
                      have n5_ := Aside0.mk (blk_below (g := gb904) (o := .cells #[.int .i64 a0_0, .int .i64 a0_1] 23 (0, 0)) (by (with_reducible repeat (first | refine blk_drewN ?_ _ | refine blk_drew ?_ | refine blk_alloc ?_ _)); exact BK904.out) hb)
                      have n6_ := Aside0.mk (blk_below (g := gb905) (o := .cells #[.int .i64 a2_0, .slice A2_1 l2_1.length c2_1] 54 (0, 0)) (by (with_reducible repeat (first | refine blk_drewN ?_ _ | refine blk_drew ?_ | refine blk_alloc ?_ _)); exact BK905.out) hb)
                      have n7_ := Aside0.mk (blk_below (g := gb921) (o := .cells #[.int .i64 t917, .slice Ao34 t935.length co34] 26 (0, 0)) (by (with_reducible repeat (first | refine blk_drewN ?_ _ | refine blk_drew ?_ | refine blk_alloc ?_ _)); exact BK921.out) hb)
                      have n8_ := Aside0.mk (below_step (by repeat (first | (with_reducible first | exact HB.out | apply below_alloc | apply pw_below_drewN | apply below_drew1 | refine below_set ?_ GE904.out | refine below_set ?_ GE905.out | refine below_set ?_ GE921.out) | exact HB.out)) hb)
                      clear HO_8
                      clear HO_11
                      clear HO_922001
                      clear HO945
                      clear BK904
                      clear BK905
                      clear BK921
                      clear HB
                      have HO_8 := n0_
                      have HO_11 := n1_
                      have HO_922001 := n2_
                      have HO945 := n3_
                      have HO948 := n4_
                      have BK904 := n5_
                      have BK905 := n6_
                      have BK921 := n7_
                      have HB := n8_
                      clear n0_ n1_ n2_ n3_ n4_ n5_ n6_ n7_ n8_
                      (try clear hb)
                      (try clear hb2)
                      (try clear hk)
                      (try clear hi)
                      (try clear ho0)
                      refine hK.out _ _ ⟨(blk_cell BK904.out 0).trans rfl, (blk_cell BK904.out 1).trans rfl, (blk_cell BK905.out 0).trans rfl, (blk_cell BK905.out 1).trans rfl⟩ (fun hHeld => ?_)
                      clear hK K
                      refine norm_ (a' := ?_) ?_ ?_
                      rotate_left
                      · show Act.put _ (some 89) _ = _
                        simp only [Act.put, List.setIfInBounds_toArray, List.set_cons_zero, List.set_cons_succ, i64_w, i32_w]
                        rfl
                      refine pure_ (i := 6) (N := some 83) (v := ?_) (a' := ?_) #[true, true, true, true, true, true, true, false, false, false, false] rfl rfl (any_of HT_.out (by kernel_rfl)) (fun _ _ _ h => h) (Or.inl ⟨by rfl, ?_⟩) ?_ ?_
                      rotate_left
                      · intro w'
                        go_simp
                        with_reducible rfl
                      rotate_left
                      · simp only [Act.put, List.setIfInBounds_toArray, List.set_cons_zero, List.set_cons_succ, i64_w, i32_w]
                        rfl
                      refine pure_ (i := 7) (N := some 90) (v := ?_) (a' := ?_) #[true, true, true, true, true, true, true, true, false, false, false] rfl rfl (any_of HT_.out (by kernel_rfl)) (fun _ _ _ h => h) (Or.inl ⟨by rfl, ?_⟩) ?_ ?_
                      rotate_left
                      · intro w'
                        go_simp
                        with_reducible rfl
                      rotate_left
                      · simp only [Act.put, List.setIfInBounds_toArray, List.set_cons_zero, List.set_cons_succ, i64_w, i32_w]
                        rfl
                      refine pure_ (i := 8) (N := some 91) (v := ?_) (a' := ?_) #[true, true, true, true, true, true, true, true, true, false, false] rfl rfl (any_of HT_.out (by kernel_rfl)) (fun _ _ _ h => h) (Or.inl ⟨by rfl, ?_⟩) ?_ ?_
                      rotate_left
                      · intro w'
                        go_simp
                        with_reducible rfl
                      rotate_left
                      · simp only [Act.put, List.setIfInBounds_toArray, List.set_cons_zero, List.set_cons_succ, i64_w, i32_w]
                        rfl
                      refine pure_ (i := 9) (N := some 16) (v := ?_) (a' := ?_) #[true, true, true, true, true, true, true, true, true, true, false] rfl rfl (any_of HT_.out (by kernel_rfl)) (fun _ _ _ h => h) (Or.inl ⟨by rfl, ?_⟩) ?_ ?_
                      rotate_left
                      · intro w'
                        go_simp
                        with_reducible rfl
                      rotate_left
                      · simp only [Act.put, List.setIfInBounds_toArray, List.set_cons_zero, List.set_cons_succ, i64_w, i32_w]
                        rfl
                      refine pure_ (i := 10) (N := some 17) (v := ?_) (a' := ?_) #[true, true, true, true, true, true, true, true, true, true, true] rfl rfl (any_of HT_.out (by kernel_rfl)) (fun _ _ _ h => h) (Or.inl ⟨by rfl, ?_⟩) ?_ ?_
                      rotate_left
                      · intro w'
                        go_simp
                        with_reducible rfl
                      rotate_left
                      · simp only [Act.put, List.setIfInBounds_toArray, List.set_cons_zero, List.set_cons_succ, i64_w, i32_w]
                        rfl
                      refine done_ (done_of HT_.out (by kernel_rfl)) ?_
                      go_upto_region 25 with (fail)
                      go_cut [100] (fun v100 wc => ∃ (kq : Nat) (x100_75 : Bool), v100 = .bool x100_75 ∧ Aside0 (laws_FnExactUnliftSpace.j2 kq t938 t937 x100_75 = some r) ∧ Aside0 (kq ≤ kj49) ∧ Aside0 (Kd.R (Kd.int .i64) 2 wc w.heap.size (fun k_ => some k_ ≠ ((.slice Ao34 t935.length co34) : Value).ownBlock) (.slice Ao77 t924.length co77) t938) ∧ Aside0 (Kd.R (Kd.int .i64) 2 wc w.heap.size (fun k_ => some k_ ≠ ((.slice Ao77 t924.length co77) : Value).ownBlock) (.slice Ao34 t935.length co34) t935) ∧ Aside0 (wc.heap[gb904]? = some (.cells #[.int .i64 a0_0, .int .i64 a0_1] 23 (0, 0))) ∧ Aside0 (wc.heap[gb905]? = some (.cells #[.int .i64 a2_0, (.slice A2_1 l2_1.length c2_1)] 54 (0, 0))) ∧ Aside0 (wc.heap[gb921]? = some (.cells #[.int .i64 t917, (.slice Ao34 t935.length co34)] 26 (0, 0))) ∧ Aside0 (Below w.heap.size w wc))
                      case first =>
                        have H := HC76.out
                        clear HC76
                        replace H := Option.bind_eq_some_iff.mp H
                        obtain ⟨t950, A840, H⟩ := H
                        replace H : (if t950 = true then (laws_FnExactUnliftSpace.j2 kj49 t938 t937 (t949 != t916)) else (laws_FnExactUnliftSpace.j2 kj49 t938 t937 true)) = some r := H
                        have A84 := Aside0.mk A840
                        clear A840
                        by_cases c85 : t950 = true
                        · subst c85
                          have H1 : (laws_FnExactUnliftSpace.j2 kj49 t938 t937 (t949 != t916)) = some r := by rw [if_pos rfl] at H; exact H
                          clear H
                          have H := H1
                          clear H1
                          have H' := Aside0.mk H
                          clear H
                          obtain ⟨Ao86, co86, eo86⟩ := Kd.R_slice HO948.out
                          subst eo86
                          obtain ⟨Ao87, co87, eo87⟩ := Kd.R_slice HO_8.out
                          subst eo87
                          go_wp2_with (first | ((with_reducible refine gate_callee (f := 22) rfl ?_); refine goesL_ (some 94) rfl rfl Try.func22 (by kernel_rfl) rfl #[.slice Ao86 t946.length co86, .slice Ao87 t913.length co87] rfl (by (try simp only [List.map_toArray, List.map_cons, List.map_nil]); first | done | rfl | (simp only [List.length_drop, List.length_take]; rfl)) ?_; (with_reducible refine (laws_eqInt64S.calls kj49 _ _ t946 _ _ t913 true _ ?side1 ?side2 ?side3 ?side4 A84.out).mono ?_); (case side1 => repeat (first | exact (Kd.R_reads' HO948.out).2.2 | (with_reducible refine Kd.C_alloc ?_ _) | (with_reducible refine Kd.C_drewN ?_ _) | (with_reducible refine Kd.C_drew ?_))); (case side2 => exact (Kd.R_reads' HO948.out).2.1); (case side3 => repeat (first | exact (Kd.R_reads' HO_8.out).2.2 | (with_reducible refine Kd.C_alloc ?_ _) | (with_reducible refine Kd.C_drewN ?_ _) | (with_reducible refine Kd.C_drew ?_))); (case side4 => exact (Kd.R_reads' HO_8.out).2.1); rintro e w' ⟨rfl, ⟨nd, rfl⟩⟩; refine ⟨_, rfl, ?_⟩))
                          go_meet
                          case rel => exact ⟨_, ((t949 != t916)), (by first | rfl | (simp; done) | (simp [*]; done)), H', ⟨by have := HJ16.out; have := HJ49.out; first | omega | exact Nat.le_refl _⟩, ⟨by (try simp only [hl922001_49]); (with_reducible repeat (first | apply Kd.R_alloc | apply Kd.R_drewN | apply Kd.R_drew)); exact Kd.R_mono HO_11.out (fun _ hk => hk.1.1.2)⟩, ⟨by (try simp only [hl922001_49]); (with_reducible repeat (first | apply Kd.R_alloc | apply Kd.R_drewN | apply Kd.R_drew)); exact Kd.R_mono HO_922001.out (fun _ hk => hk.1.1.2)⟩, ⟨by (try simp only [hl922001_49]); (with_reducible repeat (first | refine blk_drewN ?_ _ | refine blk_drew ?_ | refine blk_alloc ?_ _)); exact BK904.out⟩, ⟨by (try simp only [hl922001_49]); (with_reducible repeat (first | refine blk_drewN ?_ _ | refine blk_drew ?_ | refine blk_alloc ?_ _)); exact BK905.out⟩, ⟨by (try simp only [hl922001_49]); (with_reducible repeat (first | refine blk_drewN ?_ _ | refine blk_drew ?_ | refine blk_alloc ?_ _)); exact BK921.out⟩, ⟨by repeat (first | (with_reducible first | exact HB.out | apply below_alloc | apply pw_below_drewN | apply below_drew1 | refine below_set ?_ GE904.out | refine below_set ?_ GE905.out | refine below_set ?_ GE921.out) | exact HB.out)⟩⟩
                        · replace c85 := Bool.eq_false_iff.mpr c85
                          subst c85
                          have H1 : (laws_FnExactUnliftSpace.j2 kj49 t938 t937 true) = some r := by rw [if_neg (show ¬ (false = true) by decide)] at H; exact H
                          clear H
                          have H := H1
                          clear H1
                          have H' := Aside0.mk H
                          clear H
                          obtain ⟨Ao88, co88, eo88⟩ := Kd.R_slice HO948.out
                          subst eo88
                          obtain ⟨Ao89, co89, eo89⟩ := Kd.R_slice HO_8.out
                          subst eo89
                          go_wp2_with (first | ((with_reducible refine gate_callee (f := 22) rfl ?_); refine goesL_ (some 94) rfl rfl Try.func22 (by kernel_rfl) rfl #[.slice Ao88 t946.length co88, .slice Ao89 t913.length co89] rfl (by (try simp only [List.map_toArray, List.map_cons, List.map_nil]); first | done | rfl | (simp only [List.length_drop, List.length_take]; rfl)) ?_; (with_reducible refine (laws_eqInt64S.calls kj49 _ _ t946 _ _ t913 false _ ?side1 ?side2 ?side3 ?side4 A84.out).mono ?_); (case side1 => repeat (first | exact (Kd.R_reads' HO948.out).2.2 | (with_reducible refine Kd.C_alloc ?_ _) | (with_reducible refine Kd.C_drewN ?_ _) | (with_reducible refine Kd.C_drew ?_))); (case side2 => exact (Kd.R_reads' HO948.out).2.1); (case side3 => repeat (first | exact (Kd.R_reads' HO_8.out).2.2 | (with_reducible refine Kd.C_alloc ?_ _) | (with_reducible refine Kd.C_drewN ?_ _) | (with_reducible refine Kd.C_drew ?_))); (case side4 => exact (Kd.R_reads' HO_8.out).2.1); rintro e w' ⟨rfl, ⟨nd, rfl⟩⟩; refine ⟨_, rfl, ?_⟩))
                          go_meet
                          case rel => exact ⟨_, (true), (by first | rfl | (simp; done) | (simp [*]; done)), H', ⟨by have := HJ16.out; have := HJ49.out; first | omega | exact Nat.le_refl _⟩, ⟨by (try simp only [hl922001_49]); (with_reducible repeat (first | apply Kd.R_alloc | apply Kd.R_drewN | apply Kd.R_drew)); exact Kd.R_mono HO_11.out (fun _ hk => hk.1.1.2)⟩, ⟨by (try simp only [hl922001_49]); (with_reducible repeat (first | apply Kd.R_alloc | apply Kd.R_drewN | apply Kd.R_drew)); exact Kd.R_mono HO_922001.out (fun _ hk => hk.1.1.2)⟩, ⟨by (try simp only [hl922001_49]); (with_reducible repeat (first | refine blk_drewN ?_ _ | refine blk_drew ?_ | refine blk_alloc ?_ _)); exact BK904.out⟩, ⟨by (try simp only [hl922001_49]); (with_reducible repeat (first | refine blk_drewN ?_ _ | refine blk_drew ?_ | refine blk_alloc ?_ _)); exact BK905.out⟩, ⟨by (try simp only [hl922001_49]); (with_reducible repeat (first | refine blk_drewN ?_ _ | refine blk_drew ?_ | refine blk_alloc ?_ _)); exact BK921.out⟩, ⟨by repeat (first | (with_reducible first | exact HB.out | apply below_alloc | apply pw_below_drewN | apply below_drew1 | refine below_set ?_ GE904.out | refine below_set ?_ GE905.out | refine below_set ?_ GE921.out) | exact HB.out)⟩⟩
                      case rest =>
                        clear HC76
                        try clear c1
                        try clear c2
                        try clear p2
                        try clear c3
                        try clear c4
                        try clear c5
                        try clear c5b0
                        try clear c6
                        try clear c7
                        try clear c8
                        try clear c12
                        try clear c18
                        try clear c20
                        try clear c21
                        try clear c22
                        try clear c23
                        try clear c24
                        try clear c31
                        try clear c32
                        try clear c40
                        try clear c45
                        try clear c47
                        try clear c48
                        try clear c49
                        try clear c55
                        try clear c56
                        try clear c59
                        try clear c59b0
                        try clear c61
                        try clear c66
                        try clear c69
                        try clear c69b0
                        try clear c72
                        try clear c72b0
                        try clear c72b1
                        try clear c85
                        try clear hcz21_0
                        try clear hcz21_1
                        try clear hcz28_0
                        try clear hcz28_1
                        try clear hcz33_0
                        try clear hcz33_1
                        try clear hcz57_0
                        try clear hcz57_1
                        try clear hcz9_0
                        try clear hcz9_1
                        try clear hfz21_0
                        try clear hfz21_1
                        try clear hfz28_0
                        try clear hfz28_1
                        try clear hfz33_0
                        try clear hfz33_1
                        try clear hfz57_0
                        try clear hfz57_1
                        try clear hfz9_0
                        try clear hfz9_1
                        try clear p2
                        obtain ⟨kq, x100_75, rfl, HA, HJ75, HO_11, HO_922001, BK904, BK905, BK921, HB⟩ := hcut
                        have hl11_75 := (Kd.R_reads' HO_11.out).1
                        rw [hl11_75] at HO_11
                        (try simp only [hl11_75])
                        (try simp only [hl11_75] at BK904)
                        (try simp only [hl11_75] at BK905)
                        (try simp only [hl11_75] at BK921)
                        (try simp only [hl11_75] at HO_922001)
                        cases kq with
                        | zero => exact absurd HA.out (by simp [laws_FnExactUnliftSpace.j2])
                        | succ kj75 =>
                          have H := HA.out
                          clear HA
                          simp only [laws_FnExactUnliftSpace.j2] at H
                          by_cases c90 : x100_75 = true
                          · subst c90
                            have H1 : (some false) = some r := by rw [if_pos rfl] at H; exact H
                            clear H
                            have H := H1
                            clear H1
                            obtain rfl := Option.some.inj H
                            go_wp2
                            go_ret
                            exact ⟨by first | rfl | (simp [errW_none, errW_some] <;> rfl) | (simp [*, errW_none, errW_some] <;> rfl), by repeat (first | (with_reducible first | exact HB.out | apply below_alloc | apply pw_below_drewN | apply below_drew1 | refine below_set ?_ GE904.out | refine below_set ?_ GE905.out | refine below_set ?_ GE921.out) | exact HB.out)⟩
                          · replace c90 := Bool.eq_false_iff.mpr c90
                            subst c90
                            have H1 : ((laws_heldInt64S.f kj75 t938 1).bind fun t951 => (if t951 < 0 then (some false) else (if t951 = t937 then (some true) else (some false)))) = some r := by rw [if_neg (show ¬ (false = true) by decide)] at H; exact H
                            clear H
                            have H := H1
                            clear H1
                            replace H := Option.bind_eq_some_iff.mp H
                            obtain ⟨t951, A910, H⟩ := H
                            replace H : (if t951 < 0 then (some false) else (if t951 = t937 then (some true) else (some false))) = some r := H
                            have A91 := Aside0.mk A910
                            clear A910
                            by_cases c92 : t951 < 0
                            · rw [if_pos c92] at H
                              have c92b0 : decide (t951 < 0) = true := decide_eq_true c92
                              clear c92
                              (try (have c92b0z := c92b0; simp only [hl922001_49, hl11_75] at c92b0z))
                              obtain rfl := Option.some.inj H
                              go_wp2_with (first | ((with_reducible refine gate_callee (f := 32) rfl ?_); refine goesL_ (some 103) rfl rfl Try.func32 (by kernel_rfl) rfl #[.slice Ao77 t938.length co77, .int .i64 1] rfl (by (try simp only [List.map_toArray, List.map_cons, List.map_nil]); first | done | rfl | (simp only [List.length_drop, List.length_take]; rfl)) ?_; (with_reducible refine (laws_heldInt64S.calls kj75 _ _ t938 1 t951 _ ?side1 ?side2 A91.out).mono ?_); (case side1 => repeat (first | exact (Kd.R_reads' HO_11.out).2.2 | (with_reducible refine Kd.C_alloc ?_ _) | (with_reducible refine Kd.C_drewN ?_ _) | (with_reducible refine Kd.C_drew ?_))); (case side2 => exact (Kd.R_reads' HO_11.out).2.1); rintro e w' ⟨rfl, ⟨nd, rfl⟩⟩; refine ⟨_, rfl, ?_⟩))
                              go_ret
                              exact ⟨by first | rfl | (simp [errW_none, errW_some] <;> rfl) | (simp [*, errW_none, errW_some] <;> rfl), by repeat (first | (with_reducible first | exact HB.out | apply below_alloc | apply pw_below_drewN | apply below_drew1 | refine below_set ?_ GE904.out | refine below_set ?_ GE905.out | refine below_set ?_ GE921.out) | exact HB.out)⟩
                            · rw [if_neg c92] at H
                              have c92b0 : decide (t951 < 0) = false := decide_eq_false c92
                              clear c92
                              (try (have c92b0z := c92b0; simp only [hl922001_49, hl11_75] at c92b0z))
                              by_cases c93 : t951 = t937
                              · rw [if_pos c93] at H
                                have c93b0 : (t951 == t937) = true := beq_iff_eq.mpr c93
                                have c93b1 : (t951 != t937) = false := bne_eq_false_iff_eq.mpr c93
                                clear c93
                                (try (have c93b0z := c93b0; simp only [hl922001_49, hl11_75] at c93b0z))
                                (try (have c93b1z := c93b1; simp only [hl922001_49, hl11_75] at c93b1z))
                                obtain rfl := Option.some.inj H
                                go_wp2_with (first | ((with_reducible refine gate_callee (f := 32) rfl ?_); refine goesL_ (some 103) rfl rfl Try.func32 (by kernel_rfl) rfl #[.slice Ao77 t938.length co77, .int .i64 1] rfl (by (try simp only [List.map_toArray, List.map_cons, List.map_nil]); first | done | rfl | (simp only [List.length_drop, List.length_take]; rfl)) ?_; (with_reducible refine (laws_heldInt64S.calls kj75 _ _ t938 1 t951 _ ?side1 ?side2 A91.out).mono ?_); (case side1 => repeat (first | exact (Kd.R_reads' HO_11.out).2.2 | (with_reducible refine Kd.C_alloc ?_ _) | (with_reducible refine Kd.C_drewN ?_ _) | (with_reducible refine Kd.C_drew ?_))); (case side2 => exact (Kd.R_reads' HO_11.out).2.1); rintro e w' ⟨rfl, ⟨nd, rfl⟩⟩; refine ⟨_, rfl, ?_⟩))
                                go_ret
                                exact ⟨by first | rfl | (simp [errW_none, errW_some] <;> rfl) | (simp [*, errW_none, errW_some] <;> rfl), by repeat (first | (with_reducible first | exact HB.out | apply below_alloc | apply pw_below_drewN | apply below_drew1 | refine below_set ?_ GE904.out | refine below_set ?_ GE905.out | refine below_set ?_ GE921.out) | exact HB.out)⟩
                              · rw [if_neg c93] at H
                                have c93b0 : (t951 == t937) = false := beq_eq_false_iff_ne.mpr c93
                                have c93b1 : (t951 != t937) = true := bne_iff_ne.mpr c93
                                (try (have c93b0z := c93b0; simp only [hl922001_49, hl11_75] at c93b0z))
                                (try (have c93b1z := c93b1; simp only [hl922001_49, hl11_75] at c93b1z))
                                obtain rfl := Option.some.inj H
                                go_wp2_with (first | ((with_reducible refine gate_callee (f := 32) rfl ?_); refine goesL_ (some 103) rfl rfl Try.func32 (by kernel_rfl) rfl #[.slice Ao77 t938.length co77, .int .i64 1] rfl (by (try simp only [List.map_toArray, List.map_cons, List.map_nil]); first | done | rfl | (simp only [List.length_drop, List.length_take]; rfl)) ?_; (with_reducible refine (laws_heldInt64S.calls kj75 _ _ t938 1 t951 _ ?side1 ?side2 A91.out).mono ?_); (case side1 => repeat (first | exact (Kd.R_reads' HO_11.out).2.2 | (with_reducible refine Kd.C_alloc ?_ _) | (with_reducible refine Kd.C_drewN ?_ _) | (with_reducible refine Kd.C_drew ?_))); (case side2 => exact (Kd.R_reads' HO_11.out).2.1); rintro e w' ⟨rfl, ⟨nd, rfl⟩⟩; refine ⟨_, rfl, ?_⟩))
                                go_ret
                                exact ⟨by first | rfl | (simp [errW_none, errW_some] <;> rfl) | (simp [*, errW_none, errW_some] <;> rfl), by repeat (first | (with_reducible first | exact HB.out | apply below_alloc | apply pw_below_drewN | apply below_drew1 | refine below_set ?_ GE904.out | refine below_set ?_ GE905.out | refine below_set ?_ GE921.out) | exact HB.out)⟩
                    · rw [if_neg c72] at H
                      have c72b0 : (t939 == t937) = false := beq_eq_false_iff_ne.mpr c72
                      have c72b1 : (t939 != t937) = true := bne_iff_ne.mpr c72
                      (try (have c72b0z := c72b0; simp only [hl922001_49] at c72b0z))
                      (try (have c72b1z := c72b1; simp only [hl922001_49] at c72b1z))
                      obtain rfl := Option.some.inj H
                      obtain ⟨Ao94, co94, eo94⟩ := Kd.R_slice HO_11.out
                      subst eo94
                      go_wp2_with (first | ((with_reducible refine gate_callee (f := 23) rfl ?_); refine goesL_ (some 74) rfl rfl Try.func23 (by kernel_rfl) rfl #[.slice Ao94 t924.length co94, .int .i64 1] rfl (by (try simp only [List.map_toArray, List.map_cons, List.map_nil]); first | done | rfl | (simp only [List.length_drop, List.length_take]; rfl)) ?_; (with_reducible refine (laws_markInt64S.calls kj49 (fun k_ => some k_ = (.slice Ao94 t924.length co94 : Value).ownBlock) (.slice Ao94 t924.length co94) t924 1 t937 t938 w _ ?side1 ?side2 A67.out).mono ?_); (case side1 => repeat (first | (with_reducible first | exact HB.out | apply below_alloc | apply pw_below_drewN | apply below_drew1 | refine below_set ?_ GE904.out | refine below_set ?_ GE905.out | refine below_set ?_ GE921.out) | exact HB.out)); (case side2 => exact Kd.R_tight rfl HO_11.out); rintro e w95 ⟨rfl, hy0, hb, hkp⟩; refine ⟨_, rfl, ?_⟩; have n0_ := Aside0.mk (Kd.R_mono (ok' := fun k_ => some k_ ≠ (.slice Ao94 t924.length co94 : Value).ownBlock ∧ some k_ ≠ (.slice Ao34 t935.length co34 : Value).ownBlock) (Kd.R_keptB (HO_8.out) hkp (fun k_ hk_ hs_ => (hk_.1) hs_)) (fun k_ hk_ => ⟨hk_.1.1, hk_.1.2⟩)); have n1_ := Aside0.mk (Kd.R_reok rfl hy0 (fun k_ e_ => HO_11.out.1 k_ e_)); have n2_ := Aside0.mk (Kd.R_mono (ok' := fun k_ => some k_ ≠ (v914 : Value).ownBlock ∧ some k_ ≠ (.slice Ao94 t924.length co94 : Value).ownBlock) (Kd.R_keptB (HO_922001.out) hkp (fun k_ hk_ hs_ => (hk_.2) hs_)) (fun k_ hk_ => ⟨hk_.1.1, hk_.1.2⟩)); have n3_ := Aside0.mk (blk_kept (by (with_reducible repeat (first | refine blk_drewN ?_ _ | refine blk_drew ?_ | refine blk_alloc ?_ _)); exact BK904.out) hkp (fun hs_ => (fun e_ => (Kd.R_ne HO_11.out BK904.out (by decide)) e_) hs_)); have n4_ := Aside0.mk (blk_kept (by (with_reducible repeat (first | refine blk_drewN ?_ _ | refine blk_drew ?_ | refine blk_alloc ?_ _)); exact BK905.out) hkp (fun hs_ => (fun e_ => (Kd.R_ne HO_11.out BK905.out (by decide)) e_) hs_)); have n5_ := Aside0.mk (blk_kept (by (with_reducible repeat (first | refine blk_drewN ?_ _ | refine blk_drew ?_ | refine blk_alloc ?_ _)); exact BK921.out) hkp (fun hs_ => (fun e_ => (Kd.R_ne HO_11.out BK921.out (by decide)) e_) hs_)); have n6_ := Aside0.mk (hb); clear HO_8; clear HO_11; clear HO_922001; clear BK904; clear BK905; clear BK921; clear HB; have HO_8 := n0_; have HO_11 := n1_; have HO_922001 := n2_; have BK904 := n3_; have BK905 := n4_; have BK921 := n5_; have HB := n6_; clear n0_ n1_ n2_ n3_ n4_ n5_ n6_; (try clear hb); (try clear hkp); (try clear hy0)) | ((with_reducible refine gate_callee (f := 32) rfl ?_); refine goesL_ (some 77) rfl rfl Try.func32 (by kernel_rfl) rfl #[.slice Ao94 t938.length co94, .int .i64 1] rfl (by (try simp only [List.map_toArray, List.map_cons, List.map_nil]); first | done | (rw [show t938.length = t924.length from (Kd.R_reads' HO_11.out).1.symm] <;> rfl) | rfl | (simp only [List.length_drop, List.length_take]; rfl)) ?_; (with_reducible refine (laws_heldInt64S.calls kj49 _ _ t938 1 t939 _ ?side1 ?side2 A68.out).mono ?_); (case side1 => repeat (first | exact (Kd.R_reads' HO_11.out).2.2 | (with_reducible refine Kd.C_alloc ?_ _) | (with_reducible refine Kd.C_drewN ?_ _) | (with_reducible refine Kd.C_drew ?_))); (case side2 => rw [show t938.length = t924.length from (Kd.R_reads' HO_11.out).1.symm]; exact (Kd.R_reads' HO_11.out).2.1); rintro e w' ⟨rfl, ⟨nd, rfl⟩⟩; refine ⟨_, rfl, ?_⟩))
                      go_ret
                      exact ⟨by first | rfl | (simp [errW_none, errW_some] <;> rfl) | (simp [*, errW_none, errW_some] <;> rfl), by repeat (first | (with_reducible first | exact HB.out | apply below_alloc | apply pw_below_drewN | apply below_drew1 | refine below_set ?_ GE904.out | refine below_set ?_ GE905.out | refine below_set ?_ GE921.out) | exact HB.out)⟩
          · replace c48 := Bool.eq_false_iff.mpr c48
            subst c48
            have H1 : (some false) = some r := by rw [if_neg (show ¬ (false = true) by decide)] at H; exact H
            clear H
            have H := H1
            clear H1
            obtain rfl := Option.some.inj H
            try go_wp2
            have n0_ := Aside0.mk (Kd.R_drew HO_8.out)
            have n1_ := Aside0.mk (Kd.R_drew HO_11.out)
            have n2_ := Aside0.mk (Kd.R_drew HO_922001.out)
            have n3_ := Aside0.mk (blk_drew BK904.out)
            have n4_ := Aside0.mk (blk_drew BK905.out)
            have n5_ := Aside0.mk (blk_drew BK921.out)
            have n6_ := Aside0.mk (below_drew1 HB.out)
            clear HO_8
            clear HO_11
            clear HO_922001
            clear BK904
            clear BK905
            clear BK921
            clear HB
            have HO_8 := n0_
            have HO_11 := n1_
            have HO_922001 := n2_
            have BK904 := n3_
            have BK905 := n4_
            have BK921 := n5_
            have HB := n6_
            clear n0_ n1_ n2_ n3_ n4_ n5_ n6_
            refine start_ (n := 5) (S := fun w' => w'.cell? ⟨gb921, 0, none⟩ = some (.int .i64 t917) ∧ w'.cell? ⟨gb921, 1, none⟩ = some (.slice Ao34 t918.length co34) ∧ w'.cell? ⟨gb905, 0, none⟩ = some (.int .i64 a2_0) ∧ w'.cell? ⟨gb905, 1, none⟩ = some (.slice A2_1 l2_1.length c2_1)) (ds := []) #[false, false, false, false, false] (by kernel_rfl) rfl rfl ⟨(blk_cell BK921.out 0).trans rfl, (blk_cell BK921.out 1).trans rfl, (blk_cell BK905.out 0).trans rfl, (blk_cell BK905.out 1).trans rfl⟩ (fun hHeld => ?_)
            generalize wc.drew = w96 at HO_8 HO_11 HO_922001 BK904 BK905 BK921 HB hHeld ⊢
            refine take_ (i := 0) (N := some 51) (v := ?_) (a' := ?_) #[true, false, false, false, false] rfl rfl (by kernel_rfl) (fun _ _ _ h => h) (Or.inl ⟨by rfl, ?_⟩) hHeld ?_ ?_
            rotate_left
            · rintro w' ⟨s0, s1, s2, s3⟩
              go_simp
              with_reducible rfl
            rotate_left
            · simp only [Act.put, List.setIfInBounds_toArray, List.set_cons_zero, List.set_cons_succ, i64_w, i32_w]
              rfl
            refine take_ (i := 1) (N := some 52) (v := ?_) (a' := ?_) #[true, true, false, false, false] rfl rfl (by kernel_rfl) (fun _ _ _ h => h) (Or.inl ⟨by rfl, ?_⟩) hHeld ?_ ?_
            rotate_left
            · rintro w' ⟨s0, s1, s2, s3⟩
              go_simp
              with_reducible rfl
            rotate_left
            · simp only [Act.put, List.setIfInBounds_toArray, List.set_cons_zero, List.set_cons_succ, i64_w, i32_w]
              rfl
            refine one_ (i := 2) (N := some 53) #[true, true, true, false, false] rfl rfl (by kernel_rfl) (by decide) (fun K hK => ?_)
            refine goes_ Try.func48 (by kernel_rfl) rfl #[.agg #[.int .i64 a2_0, .slice A2_1 l2_1.length c2_1]] (by rfl) rfl rfl (by (try simp only [List.map_toArray, List.map_cons, List.map_nil]); first | done | rfl | (simp only [List.length_drop, List.length_take]; rfl)) ?_
            with_reducible refine (laws_toMatrix.calls kj16 a2_0 _ _ l2_1 t929 t930 _ ?side1 ?side2 A46.out).mono ?_
            (case side1 => repeat (first | exact (Kd.C_below HR2_1.out HB.out) | (with_reducible refine Kd.C_alloc ?_ _) | (with_reducible refine Kd.C_drewN ?_ _) | (with_reducible refine Kd.C_drew ?_)))
            (case side2 => exact HC2_1.out)
            rintro e w97 ⟨v931, rfl, ho0, hb⟩
            refine ⟨_, rfl, ?_⟩
            have n0_ := Aside0.mk (Kd.R_elder' (by (with_reducible repeat (first | apply Kd.R_alloc | apply Kd.R_drewN | apply Kd.R_drew)); exact HO_8.out) (Kd.R_base ho0) hb)
            have n1_ := Aside0.mk (Kd.R_elder' (by (with_reducible repeat (first | apply Kd.R_alloc | apply Kd.R_drewN | apply Kd.R_drew)); exact HO_11.out) (Kd.R_base ho0) hb)
            have n2_ := Aside0.mk (Kd.R_elder' (by (with_reducible repeat (first | apply Kd.R_alloc | apply Kd.R_drewN | apply Kd.R_drew)); exact HO_922001.out) (Kd.R_base ho0) hb)
            have n3_ := Aside0.mk (Kd.R_lower (Kd.R_new' (Kd.R_new' (Kd.R_new' ho0 (Kd.R_lt (by (with_reducible repeat (first | apply Kd.R_alloc | apply Kd.R_drewN | apply Kd.R_drew)); exact HO_8.out))) (Kd.R_lt (by (with_reducible repeat (first | apply Kd.R_alloc | apply Kd.R_drewN | apply Kd.R_drew)); exact HO_11.out))) (Kd.R_lt (by (with_reducible repeat (first | apply Kd.R_alloc | apply Kd.R_drewN | apply Kd.R_drew)); exact HO_922001.out))) (below_size (by repeat (first | (with_reducible first | exact HB.out | apply below_alloc | apply pw_below_drewN | apply below_drew1 | refine below_set ?_ GE904.out | refine below_set ?_ GE905.out | refine below_set ?_ GE921.out) | exact HB.out))))
            have n4_ := Aside0.mk (blk_below (g := gb904) (o := .cells #[.int .i64 a0_0, .int .i64 a0_1] 23 (0, 0)) (by (with_reducible repeat (first | refine blk_drewN ?_ _ | refine blk_drew ?_ | refine blk_alloc ?_ _)); exact BK904.out) hb)
            have n5_ := Aside0.mk (blk_below (g := gb905) (o := .cells #[.int .i64 a2_0, .slice A2_1 l2_1.length c2_1] 54 (0, 0)) (by (with_reducible repeat (first | refine blk_drewN ?_ _ | refine blk_drew ?_ | refine blk_alloc ?_ _)); exact BK905.out) hb)
            have n6_ := Aside0.mk (blk_below (g := gb921) (o := .cells #[.int .i64 t917, .slice Ao34 t918.length co34] 26 (0, 0)) (by (with_reducible repeat (first | refine blk_drewN ?_ _ | refine blk_drew ?_ | refine blk_alloc ?_ _)); exact BK921.out) hb)
            have n7_ := Aside0.mk (below_step (by repeat (first | (with_reducible first | exact HB.out | apply below_alloc | apply pw_below_drewN | apply below_drew1 | refine below_set ?_ GE904.out | refine below_set ?_ GE905.out | refine below_set ?_ GE921.out) | exact HB.out)) hb)
            clear HO_8
            clear HO_11
            clear HO_922001
            clear BK904
            clear BK905
            clear BK921
            clear HB
            have HO_8 := n0_
            have HO_11 := n1_
            have HO_922001 := n2_
            have HO932 := n3_
            have BK904 := n4_
            have BK905 := n5_
            have BK921 := n6_
            have HB := n7_
            clear n0_ n1_ n2_ n3_ n4_ n5_ n6_ n7_
            (try clear hb)
            (try clear hb2)
            (try clear hk)
            (try clear hi)
            (try clear ho0)
            obtain ⟨Ao98, co98, eo98⟩ := Kd.R_slice HO932.out
            (first | subst eo98 | (injection eo98 with f1_ f2_ f3_; have f4_ := f1_.symm; have f5_ := f3_.symm; clear f1_ f2_ f3_; subst f4_; subst f5_))
            refine hK.out _ _ ⟨(blk_cell BK921.out 0).trans rfl, (blk_cell BK921.out 1).trans rfl, (blk_cell BK905.out 0).trans rfl, (blk_cell BK905.out 1).trans rfl⟩ (fun hHeld => ?_)
            clear hK K
            refine norm_ (a' := ?_) ?_ ?_
            rotate_left
            · show Act.put _ (some 53) _ = _
              simp only [Act.put, List.setIfInBounds_toArray, List.set_cons_zero, List.set_cons_succ, i64_w, i32_w]
              rfl
            refine one_ (i := 3) (N := some 54) #[true, true, true, true, false] rfl rfl (by kernel_rfl) (by decide) (fun K hK => ?_)
            refine goes_ Try.func21 (by kernel_rfl) rfl #[.agg #[.int .i64 t917, .slice Ao34 t918.length co34], .agg #[.int .i64 t929, .slice Ao98 t930.length co98]] (by rfl) rfl rfl (by (try simp only [List.map_toArray, List.map_cons, List.map_nil]); first | done | rfl | (simp only [List.length_drop, List.length_take]; rfl)) ?_
            with_reducible refine (laws_eqMatrix.calls kj16 t917 _ _ t918 t929 _ _ t930 false _ ?side1 ?side2 ?side3 ?side4 A47.out).mono ?_
            (case side1 => repeat (first | exact (Kd.R_reads' HO_922001.out).2.2 | (with_reducible refine Kd.C_alloc ?_ _) | (with_reducible refine Kd.C_drewN ?_ _) | (with_reducible refine Kd.C_drew ?_)))
            (case side2 => exact (Kd.R_reads' HO_922001.out).2.1)
            (case side3 => repeat (first | exact (Kd.R_reads' HO932.out).2.2 | (with_reducible refine Kd.C_alloc ?_ _) | (with_reducible refine Kd.C_drewN ?_ _) | (with_reducible refine Kd.C_drew ?_)))
            (case side4 => exact (Kd.R_reads' HO932.out).2.1)
            rintro e w99 ⟨rfl, hb⟩
            refine ⟨_, rfl, ?_⟩
            have n0_ := Aside0.mk (Kd.R_below (by (with_reducible repeat (first | apply Kd.R_alloc | apply Kd.R_drewN | apply Kd.R_drew)); exact HO_8.out) hb)
            have n1_ := Aside0.mk (Kd.R_below (by (with_reducible repeat (first | apply Kd.R_alloc | apply Kd.R_drewN | apply Kd.R_drew)); exact HO_11.out) hb)
            have n2_ := Aside0.mk (Kd.R_below (by (with_reducible repeat (first | apply Kd.R_alloc | apply Kd.R_drewN | apply Kd.R_drew)); exact HO_922001.out) hb)
            have n3_ := Aside0.mk (Kd.R_below (by (with_reducible repeat (first | apply Kd.R_alloc | apply Kd.R_drewN | apply Kd.R_drew)); exact HO932.out) hb)
            have n4_ := Aside0.mk (blk_below (g := gb904) (o := .cells #[.int .i64 a0_0, .int .i64 a0_1] 23 (0, 0)) (by (with_reducible repeat (first | refine blk_drewN ?_ _ | refine blk_drew ?_ | refine blk_alloc ?_ _)); exact BK904.out) hb)
            have n5_ := Aside0.mk (blk_below (g := gb905) (o := .cells #[.int .i64 a2_0, .slice A2_1 l2_1.length c2_1] 54 (0, 0)) (by (with_reducible repeat (first | refine blk_drewN ?_ _ | refine blk_drew ?_ | refine blk_alloc ?_ _)); exact BK905.out) hb)
            have n6_ := Aside0.mk (blk_below (g := gb921) (o := .cells #[.int .i64 t917, .slice Ao34 t918.length co34] 26 (0, 0)) (by (with_reducible repeat (first | refine blk_drewN ?_ _ | refine blk_drew ?_ | refine blk_alloc ?_ _)); exact BK921.out) hb)
            have n7_ := Aside0.mk (below_step (by repeat (first | (with_reducible first | exact HB.out | apply below_alloc | apply pw_below_drewN | apply below_drew1 | refine below_set ?_ GE904.out | refine below_set ?_ GE905.out | refine below_set ?_ GE921.out) | exact HB.out)) hb)
            clear HO_8
            clear HO_11
            clear HO_922001
            clear HO932
            clear BK904
            clear BK905
            clear BK921
            clear HB
            have HO_8 := n0_
            have HO_11 := n1_
            have HO_922001 := n2_
            have HO932 := n3_
            have BK904 := n4_
            have BK905 := n5_
            have BK921 := n6_
            have HB := n7_
            clear n0_ n1_ n2_ n3_ n4_ n5_ n6_ n7_
            (try clear hb)
            (try clear hb2)
            (try clear hk)
            (try clear hi)
            refine hK.out _ _ ⟨(blk_cell BK921.out 0).trans rfl, (blk_cell BK921.out 1).trans rfl, (blk_cell BK905.out 0).trans rfl, (blk_cell BK905.out 1).trans rfl⟩ (fun hHeld => ?_)
            clear hK K
            refine norm_ (a' := ?_) ?_ ?_
            rotate_left
            · show Act.put _ (some 54) _ = _
              simp only [Act.put, List.setIfInBounds_toArray, List.set_cons_zero, List.set_cons_succ, i64_w, i32_w]
              rfl
            refine pure_ (i := 4) (N := some 55) (v := ?_) (a' := ?_) #[true, true, true, true, true] rfl rfl (by kernel_rfl) (fun _ _ _ h => h) (Or.inl ⟨by rfl, ?_⟩) ?_ ?_
            rotate_left
            · intro w'
              go_simp
              with_reducible rfl
            rotate_left
            · simp only [Act.put, List.setIfInBounds_toArray, List.set_cons_zero, List.set_cons_succ, i64_w, i32_w]
              rfl
            refine done_ (by kernel_rfl) ?_
            try go_wp2
            go_ret
            exact ⟨by first | rfl | (simp [errW_none, errW_some] <;> rfl) | (simp [*, errW_none, errW_some] <;> rfl), by repeat (first | (with_reducible first | exact HB.out | apply below_alloc | apply pw_below_drewN | apply below_drew1 | refine below_set ?_ GE904.out | refine below_set ?_ GE905.out | refine below_set ?_ GE921.out) | exact HB.out)⟩

end Go.Proofs.Ytngiionckbmkmaa.P
