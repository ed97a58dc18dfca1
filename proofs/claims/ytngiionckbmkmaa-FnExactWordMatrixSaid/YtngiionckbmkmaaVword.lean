/- Words over a field: what both sides take for a word, and what they answer otherwise. -/
import Derived.Test.YtngiionckbmkmaaDx1
import Derived.Test.YtngiionckbmkmaaDx2
import Derived.Test.YtngiionckbmkmaaDx3
import Derived.Test.YtngiionckbmkmaaDx5
import Derived.Test.YtngiionckbmkmaaDx11
import Derived.Test.YtngiionckbmkmaaDx14
import Derived.Test.YtngiionckbmkmaaDx16
import Derived.Test.YtngiionckbmkmaaVbase
import Derived.Test.YtngiionckbmkmaaVfield
import Derived.ProofKit
namespace Go.Proofs.Ytngiionckbmkmaa.P
open Go.RowKit Go.Proofs.YtngiionckbmkmaaW.PrintWords Go.Proofs.YtngiionckbmkmaaW.PrintLast Go.Proofs.YtngiionckbmkmaaW.PrintMore
set_option linter.unusedVariables false
/-- the first place where `q` holds, by a walk upward -/
theorem index_gen {F : Int → Option Int} {n : Nat} {q : Nat → Bool} (hend : F (n : Int) = some (-1))
    (heq : ∀ i : Nat, i < n → F (i : Int) = if q i = true then some (i : Int) else F ((i + 1 : Nat) : Int)) :
    ∃ v, F 0 = some v ∧ (decide (v ≥ 0) = !decide (∀ i, i < n → q i = false)) ∧ (0 ≤ v → v.toNat < n ∧ q v.toNat = true ∧ ∀ j, j < v.toNat → q j = false) := by
  have key : ∀ i, i ≤ n → ∃ v, F (i : Int) = some v ∧ (v ≥ 0 ↔ ¬ ∀ j, i ≤ j → j < n → q j = false) ∧ (0 ≤ v → i ≤ v.toNat ∧ v.toNat < n ∧ q v.toNat = true ∧ ∀ j, i ≤ j → j < v.toNat → q j = false) := by
    apply down
    · exact ⟨-1, hend, ⟨fun h => absurd h (by decide), fun h => absurd (fun j _ _ => by omega) h⟩, fun h => absurd h (by decide)⟩
    · intro i hi ⟨v, e, c, d⟩
      rw [heq i hi]
      by_cases hq : q i = true
      · rw [if_pos hq]
        exact ⟨i, rfl, ⟨fun _ h => (by rw [h i (by omega) hi] at hq; cases hq), fun _ => by omega⟩, fun _ => ⟨by simp, by simpa using hi, by simpa using hq, fun j h1 h2 => by simp at h2; omega⟩⟩
      · rw [if_neg hq]
        have hq' : q i = false := Bool.eq_false_iff.mpr hq
        refine ⟨v, e, c.trans ⟨fun h h' => h fun j a b => h' j (by omega) b, fun h h' => h fun j a b => ?_⟩, fun h => ?_⟩
        · rcases Nat.lt_or_ge i j with z | z
          · exact h' j z b
          · have : j = i := by omega
            rw [this, hq']
        · obtain ⟨a1, a2, a3, a4⟩ := d h
          refine ⟨by omega, a2, a3, fun j h1 h2 => ?_⟩
          rcases Nat.lt_or_ge i j with z | z
          · exact a4 j z h2
          · have : j = i := by omega
            rw [this, hq']
  obtain ⟨v, e, c, d⟩ := key 0 (by omega)
  refine ⟨v, e, ?_, fun h => ⟨(d h).2.1, (d h).2.2.1, fun j hj => (d h).2.2.2 j (by omega) hj⟩⟩
  rw [← decide_not]
  apply decide_eq_decide.mpr
  exact c.trans ⟨fun h h' => h fun j _ b => h' j b, fun h h' => h fun j b => h' j (by omega) b⟩
theorem all_gen {F : Int → Option Bool} {n : Nat} {q : Nat → Bool} (hend : F (n : Int) = some true)
    (heq : ∀ i : Nat, i < n → F (i : Int) = if q i = true then F ((i + 1 : Nat) : Int) else some false) :
    F 0 = some (decide (∀ i, i < n → q i = true)) := by
  have key : ∀ i, i ≤ n → ∃ b, F (i : Int) = some b ∧ (b = true ↔ ∀ j, i ≤ j → j < n → q j = true) := by
    apply down
    · exact ⟨true, hend, ⟨fun _ j a b => by omega, fun _ => rfl⟩⟩
    · intro i hi ⟨b, e, c⟩
      rw [heq i hi, e]
      by_cases hq : q i = true
      · rw [if_pos hq]
        refine ⟨b, rfl, c.trans ⟨fun h j a b => ?_, fun h j a b => h j (by omega) b⟩⟩
        rcases Nat.lt_or_ge i j with z | z
        · exact h j z b
        · have : j = i := by omega
          rw [this, hq]
      · rw [if_neg hq]
        exact ⟨false, rfl, ⟨(fun h => absurd h (by decide)), fun h => absurd (h i (by omega) hi) hq⟩⟩
  obtain ⟨b, e, c⟩ := key 0 (by omega)
  have e' : F 0 = some b := e
  rw [e']
  congr 1
  rw [Bool.eq_iff_iff, decide_eq_true_iff]
  exact c.trans ⟨fun h j b => h j (by omega) b, fun h j _ b => h j b⟩
theorem all_get {l : List Int} {q : Int → Bool} : decide (∀ i, i < l.length → q (rd l (i : Int)) = true) = l.all q := by
  rw [Bool.eq_iff_iff, decide_eq_true_iff, List.all_eq_true]
  constructor
  · intro h x hx
    obtain ⟨i, hi, e⟩ := List.getElem_of_mem hx
    have := h i hi
    rwa [rd_get hi, e] at this
  · intro h i hi
    rw [rd_get hi]; exact h _ (List.getElem_mem hi)

/-- an element of the field of degree m -/
def elemB (m x : Int) : Bool := decide (0 ≤ x) && decide (x < 2 ^ m.toNat)
theorem m_cases {m p : Int} (h : validB m p = true) : m = 1 ∨ m = 2 ∨ m = 3 ∨ m = 4 ∨ m = 5 := by
  have := valid_facts h; omega
theorem i_count_v {m p : Int} (h : validB m p = true) (q : Int) : impl_Field_count.f m q = some (2 ^ m.toNat) := by
  rcases m_cases h with rfl | rfl | rfl | rfl | rfl <;> rfl
theorem s_l01Size_v {m p : Int} (h : validB m p = true) (q : Int) : spec_l01Size.f m q = some (2 ^ m.toNat) := by
  rcases m_cases h with rfl | rfl | rfl | rfl | rfl <;> rfl
theorem pow_bound {m p : Int} (h : validB m p = true) : (2 : Int) ≤ 2 ^ m.toNat ∧ (2 : Int) ^ m.toNat ≤ 32 := by
  rcases m_cases h with rfl | rfl | rfl | rfl | rfl <;> decide
theorem i_has_1_v {m p : Int} (h : validB m p = true) (q x : Int) : impl_Field_has_1.f x m q = some (!(elemB m x)) := by
  unfold impl_Field_has_1.f impl_within.f elemB
  have hb := pow_bound h
  rw [i_count_v h, bind_some', wr (by omega) (by omega)]
  by_cases c : 0 ≤ x
  · rw [if_pos (by omega), bind_some']
    simp only [decide_eq_true c, Bool.true_and]
    congr 2
    apply decide_eq_decide.mpr; omega
  · rw [if_neg (by omega), bind_some']
    simp only [decide_eq_false c, Bool.false_and]
theorem i_has_v {m p : Int} (h : validB m p = true) (q : Int) {l : List Int} (hl : l.length ≤ 17592186044416) : impl_Field_has.d m q l = some (l.all (elemB m)) := by
  rw [impl_Field_has.d_eq, slices_ContainsFunc_int64_int64_AT_impl_Field_has_1.d_eq, slices_IndexFunc_int64_int64_AT_impl_Field_has_1.d_eq]
  obtain ⟨v, e, c, _⟩ := index_gen (F := fun i => slices_IndexFunc_int64_int64_AT_impl_Field_has_1.l0d l (l.length : Int) i m q) (n := l.length) (q := fun i => !(elemB m (rd l (i : Int))))
    (by show slices_IndexFunc_int64_int64_AT_impl_Field_has_1.l0d l (l.length : Int) (l.length : Int) m q = _
        rw [slices_IndexFunc_int64_int64_AT_impl_Field_has_1.l0d_eq, if_neg (by omega)])
    (by intro i hi
        show slices_IndexFunc_int64_int64_AT_impl_Field_has_1.l0d l (l.length : Int) (i : Int) m q = _
        rw [slices_IndexFunc_int64_int64_AT_impl_Field_has_1.l0d_eq, if_pos (by omega), if_pos (by omega), if_pos (by omega), i_has_1_v h, bind_some', wrS hi hl])
  have e' : slices_IndexFunc_int64_int64_AT_impl_Field_has_1.l0d l (l.length : Int) 0 m q = some v := e
  rw [e', bind_some', bind_some', c, Bool.not_not]
  congr 1
  rw [← all_get]
  apply decide_eq_decide.mpr
  simp only [Bool.not_eq_false']
theorem s_l04Elements_v {m p : Int} (h : validB m p = true) (q : Int) {l : List Int} (hl : l.length ≤ 17592186044416) : spec_l04Elements.d m q l = some (l.all (elemB m)) := by
  have hb := pow_bound h
  rw [spec_l04Elements.d_eq]
  have := all_gen (F := fun i => spec_l04Elements.l0d l i m q) (n := l.length) (q := fun i => elemB m (rd l (i : Int)))
    (by show spec_l04Elements.l0d l (l.length : Int) m q = _
        rw [spec_l04Elements.l0d_eq, if_neg (by omega)])
    (by intro i hi
        show spec_l04Elements.l0d l (i : Int) m q = _
        have e : spec_l00In.f (rd l (i : Int)) 0 (2 ^ m.toNat - 1) = some (elemB m (rd l (i : Int))) := by
          unfold spec_l00In.f elemB
          by_cases c : rd l (i : Int) ≥ 0
          · rw [if_pos c]
            simp only [decide_eq_true (show 0 ≤ rd l (i : Int) from c), Bool.true_and]
            congr 1
            apply decide_eq_decide.mpr; omega
          · rw [if_neg c]
            simp only [decide_eq_false (show ¬ 0 ≤ rd l (i : Int) from c), Bool.false_and]
        rw [spec_l04Elements.l0d_eq, if_pos (by omega), if_pos (by omega), s_l01Size_v h, bind_some', wr (by omega) (by omega), e, bind_some', wrS hi hl])
  have this' : spec_l04Elements.l0d l 0 m q = some (decide (∀ i, i < l.length → elemB m (rd l (i : Int)) = true)) := this
  rw [this']
  congr 1
  exact all_get
def wordB (m : Int) (l : List Int) : Bool := (decide (1 ≤ l.length) && decide (l.length ≤ 5)) && l.all (elemB m)
theorem s_l04Word_v {m p : Int} (h : validB m p = true) (q : Int) {l : List Int} (hl : l.length ≤ 17592186044416) : spec_l04Word.d m q l = some (wordB m l) := by
  rw [spec_l04Word.d_eq]
  unfold spec_l00In.f wordB
  by_cases c : 1 ≤ l.length
  · rw [if_pos (by omega), bind_some']
    by_cases d : l.length ≤ 5
    · rw [if_pos (by simp; omega), s_l04Elements_v h q hl, bind_some']; simp [c, d]
    · rw [if_neg (by simp; omega)]; simp [d]
  · rw [if_neg (by omega), bind_some', if_neg (by decide)]; simp [c]
theorem i_isWord_v {m p : Int} (h : validB m p = true) (q : Int) {l : List Int} (hl : l.length ≤ 17592186044416) : impl_Field_isWord.d m q l = some (wordB m l) := by
  rw [impl_Field_isWord.d_eq]
  unfold impl_size_int64_85.f impl_within.f wordB
  rw [bind_some']
  by_cases c : 1 ≤ l.length
  · rw [if_pos (by omega), bind_some']
    by_cases d : l.length ≤ 5
    · rw [if_pos (by simp; omega), i_has_v h q hl, bind_some']; simp [c, d]
    · rw [if_neg (by simp; omega)]; simp [d]
  · rw [if_neg (by omega), bind_some', if_neg (by decide)]; simp [c]
/-- what both tell of a word handed in alone: 0, 1 (no field), 2 (no word) -/
def wordCode (m p : Int) (l : List Int) : Int := if validB m p = true then (if wordB m l = true then 0 else 2) else 1
theorem s_l04Given_v (m p : Int) {l : List Int} (hl : l.length ≤ 17592186044416) : spec_l04Given.d m p l = some (wordCode m p l) := by
  rw [spec_l04Given.d_eq, s_l01Ok_v, bind_some']
  unfold wordCode
  by_cases h : validB m p = true
  · rw [if_pos h, if_pos h, s_l04Word_v h p hl, bind_some']
    by_cases c : wordB m l = true
    · rw [if_pos c, if_pos c]
    · rw [if_neg c, if_neg c]
  · rw [if_neg h, if_neg h]
theorem i_wordCode_v (m p : Int) {l : List Int} (hl : l.length ≤ 17592186044416) : impl_Field_wordCode.d m p [l] = some (wordCode m p l) := by
  rw [impl_Field_wordCode.d_eq, i_ValidField_v, bind_some']
  unfold wordCode
  by_cases h : validB m p = true
  · rw [if_pos h, if_pos h, slices_ContainsFunc_int64_int64_AT_impl_Field_wordCode_1.d_eq, slices_IndexFunc_int64_int64_AT_impl_Field_wordCode_1.d_eq]
    have hq : impl_Field_wordCode_1.d (rd_L1 [l] 0) m p [l] = some (!(wordB m l)) := by
      rw [impl_Field_wordCode_1.d_eq]
      show (impl_Field_isWord.d m p l).bind _ = _
      rw [i_isWord_v h p hl, bind_some']
      by_cases c : wordB m l = true
      · rw [if_pos c, if_pos (by simp)]
        show some ((l.length : Int) != (l.length : Int)) = _
        simp [c]
      · rw [if_neg c]; simp [Bool.eq_false_iff.mpr c]
    rw [slices_IndexFunc_int64_int64_AT_impl_Field_wordCode_1.l0d_eq, if_pos (by simp), if_pos (by omega), if_pos (by simp), hq, bind_some']
    by_cases c : wordB m l = true
    · rw [if_neg (by simp [c]), slices_IndexFunc_int64_int64_AT_impl_Field_wordCode_1.l0d_eq, if_neg (by rw [wr (by omega) (by omega)]; simp)]
      rw [bind_some', bind_some', if_neg (by decide), if_pos c]
    · rw [if_pos (by simp [c]), bind_some', bind_some', if_pos (by decide), if_neg c]
  · rw [if_neg h, if_neg h]
theorem eqMatrix_self {m : Int} {l : List Int} (hl : l.length ≤ 17592186044416) : laws_eqMatrix.d m l m l = some true := by
  rw [laws_eqMatrix.d_eq, if_pos rfl, eqInt64S_self hl, bind_some', if_pos rfl]
theorem markMatrix_v {m a : Int} {l : List Int} (hl : l.length ≤ 17592186044416) (h0 : 0 ≤ a) (h1 : a ≤ 4611686018427387904) : laws_markMatrix.d m l a = some (a + l.length, iota a l.length) := by
  rw [laws_markMatrix.d_eq, markInt64S_v hl h0 h1, bind_some']
theorem heldMatrix_v {m a : Int} {n : Nat} (hl : n ≤ 17592186044416) (h0 : 0 ≤ a) (h1 : a ≤ 4611686018427387904) : laws_heldMatrix.d m (iota a n) a = some (a + n) := by
  rw [laws_heldMatrix.d_eq, heldInt64S_v hl h0 h1, bind_some', if_neg (by omega)]
end Go.Proofs.Ytngiionckbmkmaa.P
