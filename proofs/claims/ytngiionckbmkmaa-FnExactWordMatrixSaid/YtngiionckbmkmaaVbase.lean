/- Small facts: loops, lists, marks of the laws. -/
import Derived.Test.YtngiionckbmkmaaDx2
import Derived.Test.YtngiionckbmkmaaDx6
import Derived.ProofKit
namespace Go.Proofs.Ytngiionckbmkmaa.P
open Go.RowKit Go.Proofs.YtngiionckbmkmaaW.PrintWords Go.Proofs.YtngiionckbmkmaaW.PrintLast Go.Proofs.YtngiionckbmkmaaW.PrintMore
set_option linter.unusedVariables false
theorem wr {x : Int} (h0 : -9223372036854775808 ≤ x) (h1 : x < 9223372036854775808) : wrap64 x = x := by
  unfold wrap64; omega
theorem wrS {i n : Nat} (h : i < n) (hn : n ≤ 17592186044416) : wrap64 ((i : Int) + 1) = ((i + 1 : Nat) : Int) := by rw [wr (by omega) (by omega)]; omega
theorem down {Q : Nat → Prop} {n : Nat} (h0 : Q n) (hs : ∀ i, i < n → Q (i + 1) → Q i) : ∀ i, i ≤ n → Q i := by
  intro i hi
  obtain ⟨d, hd⟩ : ∃ d, d = n - i := ⟨_, rfl⟩
  induction d generalizing i with
  | zero => have : i = n := by omega
            exact this ▸ h0
  | succ d ih => exact hs i (by omega) (ih (i + 1) (by omega) (by omega))
theorem rd_get {l : List Int} {i : Nat} (h : i < l.length) : rd l (i : Int) = l[i] := rd_at l i h
theorem bind_some' {α β : Type} (a : α) (f : α → Option β) : (some a).bind f = f a := rfl
/-- a, a + 1, .. -/
def iota (a : Int) : Nat → List Int
  | 0 => []
  | n + 1 => a :: iota (a + 1) n
theorem iota_length (a : Int) (n : Nat) : (iota a n).length = n := by
  induction n generalizing a with
  | zero => rfl
  | succ n ih => simp [iota, ih]
theorem iota_get (a : Int) (n : Nat) : ∀ (i : Nat) (h : i < (iota a n).length), (iota a n)[i] = a + i := by
  induction n generalizing a with
  | zero => intro i h; simp [iota] at h
  | succ n ih =>
    intro i h
    cases i with
    | zero => simp [iota]
    | succ i => simp only [iota, List.getElem_cons_succ]; rw [ih]; omega
theorem iota_snoc (a : Int) (n : Nat) : iota a (n + 1) = iota a n ++ [a + n] := by
  induction n generalizing a with
  | zero => simp [iota]
  | succ n ih => rw [iota, ih, iota]; simp; omega

theorem toInt64S_v {l : List Int} (h : l.length ≤ 17592186044416) : laws_toInt64S.d l = some l := by
  have key : ∀ i, i ≤ l.length → laws_toInt64S.l0d l (l.take i ++ List.replicate (l.length - i) 0) (i : Int) = some l := by
    apply down
    · rw [laws_toInt64S.l0d_eq, if_neg (by omega)]; simp
    · intro i hi ih
      rw [laws_toInt64S.l0d_eq, if_pos (by omega), if_pos (by omega), if_pos (by simp; omega), wrS hi h, rd_get hi]
      rw [← ih]
      congr 1
      rw [List.take_succ_eq_append_getElem hi, Int.toNat_natCast]
      apply List.ext_getElem
      · simp; omega
      · intro j h1 h2
        simp only [List.getElem_set, List.getElem_append, List.length_take, List.length_append, List.getElem_take, List.getElem_replicate, List.length_cons, List.length_nil]
        simp only [List.length_set, List.length_append, List.length_take, List.length_replicate] at h1
        by_cases c : i = j
        · subst c; rw [if_pos rfl, dif_pos (by omega), dif_neg (by omega)]; simp
        · rw [if_neg c]
          by_cases c2 : j < i
          · rw [dif_pos (by omega), dif_pos (by omega), dif_pos (by omega)]
          · rw [dif_neg (by omega), dif_neg (by omega)]
  rw [laws_toInt64S.d_eq, if_pos (by omega), if_pos (by omega)]
  have := key 0 (by omega)
  simpa using this
theorem eqInt64S_v {a b : List Int} (h : a.length ≤ 17592186044416) : laws_eqInt64S.d a b = some (decide (a = b)) := by
  rw [laws_eqInt64S.d_eq]
  by_cases hl : a.length = b.length
  · rw [if_pos (by omega)]
    have key : ∀ i, i ≤ a.length → laws_eqInt64S.l0d a b (i : Int) = some (decide (a.drop i = b.drop i)) := by
      apply down
      · rw [laws_eqInt64S.l0d_eq, if_neg (by omega)]; simp [hl]
      · intro i hi ih
        have hb : i < b.length := by omega
        rw [laws_eqInt64S.l0d_eq, if_pos (by omega), if_pos (by omega), if_pos (by omega), wrS hi h, rd_get hi, rd_get hb, ih]
        rw [List.drop_eq_getElem_cons hi, List.drop_eq_getElem_cons hb]
        by_cases c : a[i] = b[i]
        · rw [if_pos c]; simp only [List.cons.injEq, c, true_and]
        · rw [if_neg c]; simp only [List.cons.injEq, c, false_and, decide_false]
    have := key 0 (by omega)
    simpa using this
  · rw [if_neg (by omega)]
    have : a ≠ b := fun e => hl (by rw [e])
    simp [this]
theorem eqInt64S_self {a : List Int} (h : a.length ≤ 17592186044416) : laws_eqInt64S.d a a = some true := by rw [eqInt64S_v h]; simp
theorem markInt64S_v {l : List Int} {a : Int} (h : l.length ≤ 17592186044416) (h0 : 0 ≤ a) (h1 : a ≤ 4611686018427387904) :
    laws_markInt64S.d l a = some (a + l.length, iota a l.length) := by
  have key : ∀ i, i ≤ l.length → laws_markInt64S.l0d (iota a i ++ l.drop i) (a + i) (i : Int) = some (a + l.length, iota a l.length) := by
    apply down
    · rw [laws_markInt64S.l0d_eq, if_neg (by simp [iota_length])]; simp
    · intro i hi ih
      rw [laws_markInt64S.l0d_eq, if_pos (by simp [iota_length]; omega), if_pos (by omega), wrS hi h, wr (x := a + i + 1) (by omega) (by omega), ← ih]
      congr 1
      · rw [iota_snoc, Int.toNat_natCast, List.set_append]
        simp only [iota_length, Nat.lt_irrefl, if_false, Nat.sub_self]
        rw [List.drop_eq_getElem_cons hi]
        simp only [List.set_cons_zero, List.append_assoc, List.singleton_append]
      · omega
  rw [laws_markInt64S.d_eq]
  have := key 0 (by omega)
  simpa [iota] using this
theorem heldInt64S_v {n : Nat} {a : Int} (h : n ≤ 17592186044416) (h0 : 0 ≤ a) (h1 : a ≤ 4611686018427387904) :
    laws_heldInt64S.d (iota a n) a = some (a + n) := by
  have key : ∀ i, i ≤ n → laws_heldInt64S.l0d (iota a n) (a + i) (i : Int) = some (a + n) := by
    apply down
    · rw [laws_heldInt64S.l0d_eq, if_neg (by simp [iota_length])]
    · intro i hi ih
      have hi' : i < (iota a n).length := by rw [iota_length]; exact hi
      rw [laws_heldInt64S.l0d_eq, if_pos (by omega), if_pos (by omega), rd_get hi', iota_get, if_pos rfl, wrS hi h, wr (x := a + i + 1) (by omega) (by omega), ← ih]
      congr 1; omega
  rw [laws_heldInt64S.d_eq]
  have := key 0 (by omega)
  simpa using this
end Go.Proofs.Ytngiionckbmkmaa.P
