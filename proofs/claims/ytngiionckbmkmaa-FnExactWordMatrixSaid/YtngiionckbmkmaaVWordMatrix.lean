/- The law of WordMatrix, without rounds. -/
import Derived.Test.YtngiionckbmkmaaDx1
import Derived.Test.YtngiionckbmkmaaDx4
import Derived.Test.YtngiionckbmkmaaDx22
import Derived.Test.YtngiionckbmkmaaDx38
import Derived.Test.YtngiionckbmkmaaDx61
import Derived.Test.YtngiionckbmkmaaVbase
import Derived.Test.YtngiionckbmkmaaVword
import Derived.ProofKit
namespace Go.Proofs.Ytngiionckbmkmaa.P
open Go.RowKit Go.Proofs.YtngiionckbmkmaaW.PrintWords Go.Proofs.YtngiionckbmkmaaW.PrintLast Go.Proofs.YtngiionckbmkmaaW.PrintMore
set_option linter.unusedVariables false
theorem s_WordMatrix_v (m p : Int) {l : List Int} (hl : l.length ≤ 1048576) :
    spec_WordMatrix.d m p l = some (if wordCode m p l = 0 then (m, l, 0) else (0, [], wordCode m p l)) := by
  rw [spec_WordMatrix.d_eq, s_l04Given_v m p (by omega), bind_some']
  by_cases h : wordCode m p l = 0
  · rw [if_pos h, if_pos h]
    unfold spec_l00Own.f
    rw [bind_some', if_pos (by simp; omega), bind_some']; rfl
  · rw [if_neg h, if_neg h]
theorem i_WordMatrix_v (m p : Int) {l : List Int} (hl : l.length ≤ 1048576) :
    impl_WordMatrix.d m p l = some (if wordCode m p l = 0 then (m, l, 0) else (0, [], wordCode m p l)) := by
  rw [impl_WordMatrix.d_eq, i_wordCode_v m p (by omega), bind_some']
  by_cases h : wordCode m p l = 0
  · rw [if_pos h, if_pos h]
    unfold impl_Field_matrixOf.f slices_Clone_int64_int64.f
    rw [if_pos (by omega)]; rfl
  · rw [if_neg h, if_neg h]
theorem WordMatrix_law (m p : Int) (l : List Int) : laws_FnExactWordMatrix.d m p l = some true := by
  rw [laws_FnExactWordMatrix.d_eq]
  by_cases hl : (l.length : Int) > 1048576
  · rw [if_pos hl]
  · have hl' : l.length ≤ 1048576 := by omega
    rw [if_neg hl]
    obtain ⟨r, hr⟩ : ∃ r : Int × List Int × Int, r = (if wordCode m p l = 0 then (m, l, 0) else (0, [], wordCode m p l)) := ⟨_, rfl⟩
    have hlen : r.2.1.length ≤ 1048576 := by
      rw [hr]; by_cases h : wordCode m p l = 0
      · rw [if_pos h]; exact hl'
      · rw [if_neg h]; simp
    have hS := s_WordMatrix_v m p hl'
    have hI := i_WordMatrix_v m p hl'
    rw [← hr] at hS hI
    clear hr
    obtain ⟨r1, r2, r3⟩ := r
    simp only at hlen
    simp only [laws_toField.f, bind_some', toInt64S_v (show l.length ≤ 17592186044416 by omega), hS, hI, eqMatrix_self (show r2.length ≤ 17592186044416 by omega), if_true,
      laws_FnExactWordMatrix.j0d_eq, laws_FnExactWordMatrix.j1d_eq, laws_FnExactWordMatrix.j2d_eq, eqInt64S_self (show l.length ≤ 17592186044416 by omega),
      markInt64S_v (show l.length ≤ 17592186044416 by omega) (show (0 : Int) ≤ 1 by decide) (by decide), markMatrix_v (show r2.length ≤ 17592186044416 by omega) (show (0 : Int) ≤ 1 by decide) (by decide),
      heldMatrix_v (show r2.length ≤ 17592186044416 by omega) (show (0 : Int) ≤ 1 by decide) (by decide), bne_self_eq_false, Bool.false_eq_true, if_false]
    simp only [if_neg (show ¬ ((1 : Int) + (l.length : Int) < 0) by omega), if_neg (show ¬ ((1 : Int) + (r2.length : Int) < 0) by omega)]
end Go.Proofs.Ytngiionckbmkmaa.P
