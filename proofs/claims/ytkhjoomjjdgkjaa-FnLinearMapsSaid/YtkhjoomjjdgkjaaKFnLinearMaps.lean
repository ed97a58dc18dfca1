/- What the functions of the law FnLinearMaps tell without rounds, and its pure statement. -/
import Derived.Test.YtkhjoomjjdgkjaaKaFnLinearMaps
section
namespace Go.Proofs.Ytkhjoomjjdgkjaa.P
open Go.RowKit Go.Proofs.YtkhjoomjjdgkjaaW.PrintWords Go.Proofs.YtkhjoomjjdgkjaaW.PrintLast Go.Proofs.YtkhjoomjjdgkjaaW.PrintMore
set_option linter.unusedVariables false
set_option linter.unusedSimpArgs false
theorem s_irr_small : ∀ i, i < 62 → spec_IsIrreducible.f 80 (2 + (i : Nat)) = some (irrB (2 + (i : Nat))) := by decide +kernel
theorem s_IsIrreducible_v (p : Int) : spec_IsIrreducible.d p = some (irrB p) := by
  by_cases h : p < 64
  · by_cases h2 : 2 ≤ p
    · have := of_range (P := fun p => spec_IsIrreducible.f 80 p = some (irrB p)) 62 2 s_irr_small p (by omega) (by omega)
      exact ((spec_IsIrreducible.lim p).2 _).mpr ⟨_, this⟩
    · by_cases h3 : p = 1
      · subst h3; exact ((spec_IsIrreducible.lim 1).2 _).mpr ⟨80, by decide +kernel⟩
      · rw [spec_IsIrreducible.d_eq, if_neg (by omega), irrB_big (.inl (by omega))]
  · rw [spec_IsIrreducible.d_eq, if_pos (by omega), if_neg h, irrB_big (.inr (by omega))]
theorem s_deg_irr {p : Int} (h : irrB p = true) : ∀ m, ((m, p) ∈ fields14) = (spec_l01Degree.d p = some m) := by
  have h := irrB_mem h
  have key : ∀ p ∈ irrs, ∃ m, spec_l01Degree.f 80 p = some m ∧ (m, p) ∈ fields14 ∧ ∀ m', (m', p) ∈ fields14 → m' = m := by
    have : ∀ p ∈ irrs, ∃ m ∈ [1, 2, 3, 4, 5], spec_l01Degree.f 80 p = some m ∧ (m, p) ∈ fields14 ∧ ∀ f ∈ fields14, f.2 = p → f.1 = m := by decide +kernel
    intro p hp
    obtain ⟨m, _, a, b, c⟩ := this p hp
    exact ⟨m, a, b, fun m' h' => c (m', p) h' rfl⟩
  intro m
  obtain ⟨m0, a, b, c⟩ := key p h
  have e : spec_l01Degree.d p = some m0 := ((spec_l01Degree.lim p).2 _).mpr ⟨_, a⟩
  rw [e]
  apply propext
  exact ⟨fun h => by rw [c m h], fun h => by cases h; exact b⟩
theorem s_l01Ok_v (m p : Int) : spec_l01Ok.d m p = some (validB m p) := by
  rw [spec_l01Ok.d_eq]
  unfold spec_l00In.f
  by_cases h1 : m ≥ 1
  · rw [if_pos h1, bind_some']
    by_cases h5 : m ≤ 5
    · rw [if_pos (by simpa using h5), s_IsIrreducible_v, bind_some']
      by_cases hi : irrB p = true
      · rw [if_pos hi]
        obtain ⟨m0, hm0⟩ := deg_some hi
        rw [s_deg_irr hi] at hm0
        rw [hm0, bind_some', validB_eq]
        have := s_deg_irr hi m
        rw [hm0] at this
        congr 1
        simp only [this, Option.some.injEq]
        by_cases e : m0 = m
        · simp [e]
        · simp [e]
      · rw [if_neg hi]
        congr 1
        have : ¬ validB m p = true := fun h => hi (valid_facts h).2.2
        exact (Bool.eq_false_iff.mpr this).symm
    · rw [if_neg (by simpa using h5)]
      have : ¬ validB m p = true := fun h => h5 (valid_facts h).2.1
      rw [Bool.eq_false_iff.mpr this]
  · rw [if_neg h1, bind_some', if_neg (by decide)]
    have : ¬ validB m p = true := fun h => h1 (valid_facts h).1
    rw [Bool.eq_false_iff.mpr this]
theorem s_l03Elements_v {m p : Int} (h : validB m p = true) (q : Int) {l : List Int} (hl : l.length ≤ 17592186044416) : spec_l03Elements.d m q l = some (l.all (elemB m)) := by
  have hb := pow_bound h
  rw [spec_l03Elements.d_eq]
  have := all_gen (F := fun i => spec_l03Elements.l0d l i m q) (n := l.length) (q := fun i => elemB m (rd l (i : Int)))
    (by show spec_l03Elements.l0d l (l.length : Int) m q = _
        rw [spec_l03Elements.l0d_eq, if_neg (by omega)])
    (by intro i hi
        show spec_l03Elements.l0d l (i : Int) m q = _
        have e : spec_l00In.f (rd l (i : Int)) 0 (2 ^ m.toNat - 1) = some (elemB m (rd l (i : Int))) := by
          unfold spec_l00In.f elemB
          by_cases c : rd l (i : Int) ≥ 0
          · rw [if_pos c]
            simp only [decide_eq_true (show 0 ≤ rd l (i : Int) from c), Bool.true_and]
            congr 1
            apply decide_eq_decide.mpr; omega
          · rw [if_neg c]
            simp only [decide_eq_false (show ¬ 0 ≤ rd l (i : Int) from c), Bool.false_and]
        rw [spec_l03Elements.l0d_eq, if_pos (by omega), if_pos (by omega), s_l01Size_v h, bind_some', wr (by omega) (by omega), e, bind_some', wrS hi hl])
  have this' : spec_l03Elements.l0d l 0 m q = some (decide (∀ i, i < l.length → elemB m (rd l (i : Int)) = true)) := this
  rw [this']
  congr 1
  exact all_get
def linB (m : Int) (l : List Int) : Bool := (decide (l.length ≤ 12) && l.all (elemB m)) && (decide (l.length = 0) || decide (rd l ((l.length : Int) - 1) ≠ 0))
theorem last_v {l : List Int} (hl : l.length ≤ 12) : (if (l.length : Int) = 0 then (some true) else (if 0 ≤ (wrap64 ((l.length : Int) - 1)) then (if (wrap64 ((l.length : Int) - 1)) < (l.length : Int) then (some ((rd l (wrap64 ((l.length : Int) - 1))) != 0)) else (none)) else (none))) = some (decide (l.length = 0) || decide (rd l ((l.length : Int) - 1) ≠ 0)) := by
  by_cases h : l.length = 0
  · rw [if_pos (by omega), decide_eq_true h]; rfl
  · rw [if_neg (by omega), wr (by omega) (by omega), if_pos (by omega), if_pos (by omega), decide_eq_false h, Bool.false_or]
    congr 1
    by_cases z : rd l ((l.length : Int) - 1) = 0
    · simp [z]
    · simp [z]
theorem s_l03Ok_v {m p : Int} (h : validB m p = true) (q : Int) {l : List Int} (hl : l.length ≤ 1048576) : spec_l03Ok.d m q l = some (linB m l) := by
  rw [spec_l03Ok.d_eq]
  unfold linB
  by_cases c : l.length ≤ 12
  · rw [if_pos (by omega), s_l03Elements_v h q (by omega), bind_some', decide_eq_true c, Bool.true_and]
    by_cases e : l.all (elemB m) = true
    · rw [if_pos e, last_v c, e, Bool.true_and]
    · rw [if_neg e, Bool.eq_false_iff.mpr e, Bool.false_and]
  · rw [if_neg (by omega), decide_eq_false c]; rfl
theorem i_isLinear_v {m p : Int} (h : validB m p = true) (q : Int) {l : List Int} (hl : l.length ≤ 1048576) : impl_Field_isLinear.d m q l = some (linB m l) := by
  rw [impl_Field_isLinear.d_eq]
  unfold linB
  by_cases c : l.length ≤ 12
  · rw [if_pos (by omega), i_has_v h q (by omega), bind_some', decide_eq_true c, Bool.true_and]
    by_cases e : l.all (elemB m) = true
    · rw [if_pos e, last_v c, e, Bool.true_and]
    · rw [if_neg e, Bool.eq_false_iff.mpr e, Bool.false_and]
  · rw [if_neg (by omega), decide_eq_false c]; rfl
theorem s_ValidLinear_v (m p : Int) {l : List Int} (hl : l.length ≤ 1048576) : spec_ValidLinear.d m p l = some (validB m p && linB m l) := by
  rw [spec_ValidLinear.d_eq, s_l01Ok_v, bind_some']
  by_cases h : validB m p = true
  · rw [if_pos h, s_l03Ok_v h p hl, bind_some', h, Bool.true_and]
  · rw [if_neg h, Bool.eq_false_iff.mpr h]; rfl
theorem i_linearCode_v (m p : Int) {l : List Int} (hl : l.length ≤ 1048576) : impl_Field_linearCode.d m p [l] = some (if (validB m p && linB m l) = true then 0 else 1) := by
  rw [impl_Field_linearCode.d_eq, i_ValidField_v, bind_some']
  by_cases h : validB m p = true
  · rw [if_pos h, slices_ContainsFunc_int64_int64_AT_impl_Field_linearCode_1.d_eq, slices_IndexFunc_int64_int64_AT_impl_Field_linearCode_1.d_eq, slices_IndexFunc_int64_int64_AT_impl_Field_linearCode_1.l0d_eq, if_pos (by simp), if_pos (by omega), if_pos (by simp), h, Bool.true_and]
    have hq : impl_Field_linearCode_1.d l m p = some (!(linB m l)) := by
      rw [impl_Field_linearCode_1.d_eq, i_isLinear_v h p hl, bind_some']
    have hq' : ∀ x, x = l → impl_Field_linearCode_1.d x m p = some (!(linB m l)) := fun x e => by rw [e, hq]
    rw [hq' _ (by rfl), bind_some']
    by_cases c : linB m l = true
    · rw [if_neg (by simp [c]), slices_IndexFunc_int64_int64_AT_impl_Field_linearCode_1.l0d_eq, if_neg (by rw [wr (by omega) (by omega)]; simp), bind_some', bind_some', if_neg (by decide), if_pos c]
    · rw [if_pos (by simp [c]), bind_some', bind_some', if_pos (by decide), if_neg c]
  · rw [if_neg h, Bool.eq_false_iff.mpr h]; rfl
theorem i_units_v {M : Nat} (hM : M ≤ 5) (p : Int) : impl_Field_units.d (M : Int) p = some (up ((List.range M).map fun i => 2 ^ i)) := by
  rw [impl_Field_units.d_eq]
  refine build_gen (F := fun i acc => impl_Field_units.l0d acc (M : Int) i) (n := M) (g := fun i => ((2 ^ i : Nat) : Int)) ?_ ?_
  · intro i hi acc ha
    show impl_Field_units.l0d acc (M : Int) (i : Int) = _
    rw [impl_Field_units.l0d_eq, if_pos (by omega), if_pos (by omega), if_pos (by omega), shl_one (by omega), wrS hi (by omega)]
  · show impl_Field_units.l0d _ (M : Int) (M : Int) = _
    rw [impl_Field_units.l0d_eq, if_neg (by omega), up_rangeN]
theorem fields_v : ∀ d : Nat, 1 ≤ d → d ≤ 5 → ∃ L, spec_l01Fields.d (d : Int) = some L ∧ 1 ≤ L.length ∧ L.length ≤ 6 ∧ ∀ i, i < L.length → validB (rd_T27 L ((i : Nat) : Int)).f0 (rd_T27 L ((i : Nat) : Int)).f1 = true := by
  intro d h1 h5
  have hd : d = 1 ∨ d = 2 ∨ d = 3 ∨ d = 4 ∨ d = 5 := by omega
  rcases hd with rfl | rfl | rfl | rfl | rfl
  · exact ⟨[⟨1, 2⟩, ⟨1, 3⟩], ((spec_l01Fields.lim 1).2 _).mpr ⟨100, by kernel_rfl⟩, by decide, by decide, by decide +kernel⟩
  · exact ⟨[⟨2, 7⟩], ((spec_l01Fields.lim 2).2 _).mpr ⟨100, by kernel_rfl⟩, by decide, by decide, by decide +kernel⟩
  · exact ⟨[⟨3, 11⟩, ⟨3, 13⟩], ((spec_l01Fields.lim 3).2 _).mpr ⟨100, by kernel_rfl⟩, by decide, by decide, by decide +kernel⟩
  · exact ⟨[⟨4, 19⟩, ⟨4, 25⟩, ⟨4, 31⟩], ((spec_l01Fields.lim 4).2 _).mpr ⟨100, by kernel_rfl⟩, by decide, by decide, by decide +kernel⟩
  · exact ⟨[⟨5, 37⟩, ⟨5, 41⟩, ⟨5, 47⟩, ⟨5, 55⟩, ⟨5, 59⟩, ⟨5, 61⟩], ((spec_l01Fields.lim 5).2 _).mpr ⟨100, by kernel_rfl⟩, by decide, by decide, by decide +kernel⟩
theorem among_v : ∀ v : Nat, v < 7 → ∃ d : Nat, rd [1, 2, 3, 3, 4, 4, 5] (v : Int) = (d : Int) ∧ 1 ≤ d ∧ d ≤ 5 := by
  intro v hv
  have : v = 0 ∨ v = 1 ∨ v = 2 ∨ v = 3 ∨ v = 4 ∨ v = 5 ∨ v = 6 := by omega
  rcases this with rfl | rfl | rfl | rfl | rfl | rfl | rfl
  · exact ⟨1, rfl, by omega, by omega⟩
  · exact ⟨2, rfl, by omega, by omega⟩
  · exact ⟨3, rfl, by omega, by omega⟩
  · exact ⟨3, rfl, by omega, by omega⟩
  · exact ⟨4, rfl, by omega, by omega⟩
  · exact ⟨4, rfl, by omega, by omega⟩
  · exact ⟨5, rfl, by omega, by omega⟩
theorem field_v {l : List Int} (hb : Bytes l) (hl : l.length ≤ 3000) : ∃ M Q : Nat, spec_A2Field.d l = some ((M : Int), (Q : Int)) ∧ validB (M : Int) (Q : Int) = true := by
  obtain ⟨v, b, t, e, v0, v1, _, g, g'⟩ := pick_v hb (Nat.le_trans hl (by decide)) (a := 0) (by omega) (by omega) 0 7 (by omega)
  obtain ⟨V, rfl⟩ : ∃ V : Nat, v = (V : Int) := ⟨v.toNat, by omega⟩
  have hV : V < 7 := by have := v1 (by omega); omega
  obtain ⟨d, ed, d1, d5⟩ := among_v V hV
  obtain ⟨L, eL, L1, L6, hL⟩ := fields_v d d1 d5
  obtain ⟨w, b2, t2, e2, w0, w1, _, _, _⟩ := pick_v hb (Nat.le_trans hl (by decide)) (a := b) (by omega) (by omega) t (L.length : Int) (by omega)
  obtain ⟨W, rfl⟩ : ∃ W : Nat, w = (W : Int) := ⟨w.toNat, by omega⟩
  have hW : W < L.length := by have := w1 (by omega); omega
  have hv := hL W hW
  obtain ⟨M, Q, eM, eQ, _, _⟩ := valid_nat hv
  refine ⟨M, Q, ?_, by rw [← eM, ← eQ]; exact hv⟩
  have ha : spec_l00Src_among.f l 0 0 [1, 2, 3, 3, 4, 4, 5] = some ((d : Int), b, t) := by
    unfold spec_l00Src_among.f
    rw [show (([1, 2, 3, 3, 4, 4, 5] : List Int).length : Int) = 7 from rfl, e, bind_some', if_pos (by show 0 ≤ (V : Int); omega), if_pos (by show (V : Int) < 7; omega)]
    show some (rd [1, 2, 3, 3, 4, 4, 5] (V : Int), b, t) = _
    rw [ed]
  rw [spec_A2Field.d_eq]
  unfold spec_l00From.f
  rw [bind_some']
  show (spec_l01Drawn.d l 0 0).bind _ = _
  rw [spec_l01Drawn.d_eq, ha, bind_some']
  show ((spec_l01Fields.d (d : Int)).bind _).bind _ = _
  rw [eL, bind_some']
  show ((spec_l00Src_pick.f l b t (L.length : Int)).bind _).bind _ = _
  rw [e2, bind_some', if_pos (by show 0 ≤ (W : Int); omega), if_pos (by show (W : Int) < (L.length : Int); omega), bind_some']
  show some ((rd_T27 L (W : Int)).f0, (rd_T27 L (W : Int)).f1) = _
  rw [eM, eQ]
theorem size_nat {M Q : Nat} (h : validB (M : Int) (Q : Int) = true) (q : Int) : spec_l01Size.f (M : Int) q = some ((2 ^ M : Nat) : Int) := by
  rw [s_l01Size_v h, Int.toNat_natCast]; simp
theorem elemB_nat2 {N x : Nat} (h : x < 2 ^ N) : elemB (N : Int) (x : Int) = true := by
  unfold elemB
  have e : ((2 ^ N : Nat) : Int) = (2 : Int) ^ N := by simp
  simp only [Bool.and_eq_true, decide_eq_true_eq, Int.toNat_natCast]
  omega
theorem long_v {l0 l1 : List Int} (h : ¬ (l0.length ≤ 3000 ∧ l1.length ≤ 3000)) : laws_a2Long.f l0 l1 = some true := by
  unfold laws_a2Long.f
  by_cases c0 : (l0.length : Int) > 3000
  · rw [if_pos c0]
  · rw [if_neg c0, decide_eq_true (by omega)]
theorem short_v {l0 l1 : List Int} (h0 : l0.length ≤ 3000) (h1 : l1.length ≤ 3000) : laws_a2Long.f l0 l1 = some false := by
  unfold laws_a2Long.f
  rw [if_neg (by omega), decide_eq_false (by omega)]
noncomputable def impl_Field_power.l0d (x1 : Int) (x2 : Int) (x7 : Int) (x289000 : Int) (x289001 : Int) : Option (Int) := lim (fun k => impl_Field_power.l0 k x1 x2 x7 x289000 x289001)
theorem impl_Field_power.l0lim (x1 : Int) (x2 : Int) (x7 : Int) (x289000 : Int) (x289001 : Int) : IsLim (fun k => impl_Field_power.l0 k x1 x2 x7 x289000 x289001) (impl_Field_power.l0d x1 x2 x7 x289000 x289001) := lim_spec (fun k => (impl_Field_power.mono_l k) x1 x2 x7 x289000 x289001)
theorem impl_Field_power.l0d_eq (x1 : Int) (x2 : Int) (x7 : Int) (x289000 : Int) (x289001 : Int) : impl_Field_power.l0d x1 x2 x7 x289000 x289001 = if x2 > 0 then (if (Go.bits .and .i64 x2 1) = 1 then ((impl_Field_mul.d x289000 x289001 x7 x1).bind fun t289 => ((impl_Field_mul.d x289000 x289001 x1 x1).bind fun t290 => (impl_Field_power.l0d t290 (x2 / 2) t289 x289000 x289001))) else ((impl_Field_mul.d x289000 x289001 x1 x1).bind fun t291 => (impl_Field_power.l0d t291 (x2 / 2) x7 x289000 x289001))) else (some x7) := by
  refine IsLim.unique (impl_Field_power.l0lim _ _ _ _ _) ?_
  refine IsLim.shift (by rfl) ?_
  simp only [impl_Field_power.l0]
  repeat' (first | exact IsLim.const _ | refine IsLim.ite ?_ ?_ | refine IsLim.bind ?_ (fun _ => ?_) | exact impl_Field_mul.lim .. | exact impl_Field_power.l0lim ..)
noncomputable def impl_Field_power.d (a0_0 : Int) (a0_1 : Int) (a1 : Int) (a2 : Int) : Option (Int) := lim (fun k => impl_Field_power.f k a0_0 a0_1 a1 a2)
theorem impl_Field_power.lim (a0_0 : Int) (a0_1 : Int) (a1 : Int) (a2 : Int) : IsLim (fun k => impl_Field_power.f k a0_0 a0_1 a1 a2) (impl_Field_power.d a0_0 a0_1 a1 a2) := lim_spec (fun k => impl_Field_power.mono a0_0 a0_1 a1 a2 k)
theorem impl_Field_power.d_eq (a0_0 : Int) (a0_1 : Int) (a1 : Int) (a2 : Int) : impl_Field_power.d a0_0 a0_1 a1 a2 = impl_Field_power.l0d a1 a2 1 a0_0 a0_1 := by
  refine IsLim.unique (impl_Field_power.lim _ _ _ _) ?_
  unfold impl_Field_power.f
  repeat' (first | exact IsLim.const _ | refine IsLim.ite ?_ ?_ | refine IsLim.bind ?_ (fun _ => ?_) | exact impl_Field_power.l0lim ..)
noncomputable def impl_Field_inverse.d (a0_0 : Int) (a0_1 : Int) (a1 : Int) : Option (Int) := lim (fun k => impl_Field_inverse.f k a0_0 a0_1 a1)
theorem impl_Field_inverse.lim (a0_0 : Int) (a0_1 : Int) (a1 : Int) : IsLim (fun k => impl_Field_inverse.f k a0_0 a0_1 a1) (impl_Field_inverse.d a0_0 a0_1 a1) := lim_spec (fun k => impl_Field_inverse.mono a0_0 a0_1 a1 k)
theorem impl_Field_inverse.d_eq (a0_0 : Int) (a0_1 : Int) (a1 : Int) : impl_Field_inverse.d a0_0 a0_1 a1 = (impl_Field_count.f a0_0 a0_1).bind fun t293 => ((impl_Field_power.d a0_0 a0_1 a1 (wrap64 (t293 - 2))).bind fun t294 => (some t294)) := by
  refine IsLim.unique (impl_Field_inverse.lim _ _ _) ?_
  unfold impl_Field_inverse.f
  repeat' (first | exact IsLim.const _ | refine IsLim.ite ?_ ?_ | refine IsLim.bind ?_ (fun _ => ?_) | exact impl_Field_power.lim ..)
noncomputable def impl_Field_root.d (a0_0 : Int) (a0_1 : Int) (a1 : Int) (a2 : Int) : Option (Int) := lim (fun k => impl_Field_root.f k a0_0 a0_1 a1 a2)
theorem impl_Field_root.lim (a0_0 : Int) (a0_1 : Int) (a1 : Int) (a2 : Int) : IsLim (fun k => impl_Field_root.f k a0_0 a0_1 a1 a2) (impl_Field_root.d a0_0 a0_1 a1 a2) := lim_spec (fun k => impl_Field_root.mono a0_0 a0_1 a1 a2 k)
noncomputable def spec_l01Mul.l0d (x1 : Int) (x2 : Int) (x7 : Int) (x8 : Int) (x133000 : Int) (x133001 : Int) : Option (Int) := lim (fun k => spec_l01Mul.l0 k x1 x2 x7 x8 x133000 x133001)
theorem spec_l01Mul.l0lim (x1 : Int) (x2 : Int) (x7 : Int) (x8 : Int) (x133000 : Int) (x133001 : Int) : IsLim (fun k => spec_l01Mul.l0 k x1 x2 x7 x8 x133000 x133001) (spec_l01Mul.l0d x1 x2 x7 x8 x133000 x133001) := lim_spec (fun k => (spec_l01Mul.mono_l k) x1 x2 x7 x8 x133000 x133001)
theorem spec_l01Mul.l0d_eq (x1 : Int) (x2 : Int) (x7 : Int) (x8 : Int) (x133000 : Int) (x133001 : Int) : spec_l01Mul.l0d x1 x2 x7 x8 x133000 x133001 = if x8 < x133000 then (if 0 ≤ (IntKind.u64.wrap (x8)) then (if (Go.bits .and .i64 (shr .i64 x2 (IntKind.u64.wrap (x8))) 1) = 1 then (spec_l01Mul.l0d x1 x2 (Go.bits .xor .i64 x7 (shl .i64 x1 (IntKind.u64.wrap (x8)))) (wrap64 (x8 + 1)) x133000 x133001) else (spec_l01Mul.l0d x1 x2 x7 (wrap64 (x8 + 1)) x133000 x133001)) else (none)) else ((spec_l01Rest.d x7 x133001).bind fun t133 => (some t133)) := by
  refine IsLim.unique (spec_l01Mul.l0lim _ _ _ _ _ _) ?_
  refine IsLim.shift (by rfl) ?_
  simp only [spec_l01Mul.l0]
  repeat' (first | exact IsLim.const _ | refine IsLim.ite ?_ ?_ | refine IsLim.bind ?_ (fun _ => ?_) | exact spec_l01Rest.lim .. | exact spec_l01Mul.l0lim ..)
noncomputable def spec_l01Mul.d (a0_0 : Int) (a0_1 : Int) (a1 : Int) (a2 : Int) : Option (Int) := lim (fun k => spec_l01Mul.f k a0_0 a0_1 a1 a2)
theorem spec_l01Mul.lim (a0_0 : Int) (a0_1 : Int) (a1 : Int) (a2 : Int) : IsLim (fun k => spec_l01Mul.f k a0_0 a0_1 a1 a2) (spec_l01Mul.d a0_0 a0_1 a1 a2) := lim_spec (fun k => spec_l01Mul.mono a0_0 a0_1 a1 a2 k)
theorem spec_l01Mul.d_eq (a0_0 : Int) (a0_1 : Int) (a1 : Int) (a2 : Int) : spec_l01Mul.d a0_0 a0_1 a1 a2 = spec_l01Mul.l0d a1 a2 0 0 a0_0 a0_1 := by
  refine IsLim.unique (spec_l01Mul.lim _ _ _ _) ?_
  unfold spec_l01Mul.f
  repeat' (first | exact IsLim.const _ | refine IsLim.ite ?_ ?_ | refine IsLim.bind ?_ (fun _ => ?_) | exact spec_l01Mul.l0lim ..)
noncomputable def spec_l01Square.l0d (x1 : Int) (x2 : Int) (x140000 : Int) (x140001 : Int) : Option (Int) := lim (fun k => spec_l01Square.l0 k x1 x2 x140000 x140001)
theorem spec_l01Square.l0lim (x1 : Int) (x2 : Int) (x140000 : Int) (x140001 : Int) : IsLim (fun k => spec_l01Square.l0 k x1 x2 x140000 x140001) (spec_l01Square.l0d x1 x2 x140000 x140001) := lim_spec (fun k => (spec_l01Square.mono_l k) x1 x2 x140000 x140001)
theorem spec_l01Square.l0d_eq (x1 : Int) (x2 : Int) (x140000 : Int) (x140001 : Int) : spec_l01Square.l0d x1 x2 x140000 x140001 = if x2 > 0 then ((spec_l01Mul.d x140000 x140001 x1 x1).bind fun t140 => (spec_l01Square.l0d t140 (wrap64 (x2 - 1)) x140000 x140001)) else (some x1) := by
  refine IsLim.unique (spec_l01Square.l0lim _ _ _ _) ?_
  refine IsLim.shift (by rfl) ?_
  simp only [spec_l01Square.l0]
  repeat' (first | exact IsLim.const _ | refine IsLim.ite ?_ ?_ | refine IsLim.bind ?_ (fun _ => ?_) | exact spec_l01Mul.lim .. | exact spec_l01Square.l0lim ..)
noncomputable def spec_l01Square.d (a0_0 : Int) (a0_1 : Int) (a1 : Int) (a2 : Int) : Option (Int) := lim (fun k => spec_l01Square.f k a0_0 a0_1 a1 a2)
theorem spec_l01Square.lim (a0_0 : Int) (a0_1 : Int) (a1 : Int) (a2 : Int) : IsLim (fun k => spec_l01Square.f k a0_0 a0_1 a1 a2) (spec_l01Square.d a0_0 a0_1 a1 a2) := lim_spec (fun k => spec_l01Square.mono a0_0 a0_1 a1 a2 k)
theorem spec_l01Square.d_eq (a0_0 : Int) (a0_1 : Int) (a1 : Int) (a2 : Int) : spec_l01Square.d a0_0 a0_1 a1 a2 = if a0_0 = 0 then (none) else (spec_l01Square.l0d a1 (Int.tmod a2 a0_0) a0_0 a0_1) := by
  refine IsLim.unique (spec_l01Square.lim _ _ _ _) ?_
  unfold spec_l01Square.f
  repeat' (first | exact IsLim.const _ | refine IsLim.ite ?_ ?_ | refine IsLim.bind ?_ (fun _ => ?_) | exact spec_l01Square.l0lim ..)
noncomputable def spec_l03Sum.l0d (x1 : List Int) (x5 : List Int) : Option (List Int) := lim (fun k => spec_l03Sum.l0 k x1 x5)
theorem spec_l03Sum.l0lim (x1 : List Int) (x5 : List Int) : IsLim (fun k => spec_l03Sum.l0 k x1 x5) (spec_l03Sum.l0d x1 x5) := lim_spec (fun k => (spec_l03Sum.mono_l k).1 x1 x5)
noncomputable def spec_l03Sum.l1d (x1 : List Int) (x5 : List Int) (x6 : Int) : Option (List Int) := lim (fun k => spec_l03Sum.l1 k x1 x5 x6)
theorem spec_l03Sum.l1lim (x1 : List Int) (x5 : List Int) (x6 : Int) : IsLim (fun k => spec_l03Sum.l1 k x1 x5 x6) (spec_l03Sum.l1d x1 x5 x6) := lim_spec (fun k => (spec_l03Sum.mono_l k).2 x1 x5 x6)
theorem spec_l03Sum.l0d_eq (x1 : List Int) (x5 : List Int) : spec_l03Sum.l0d x1 x5 = if (x5.length : Int) < (x1.length : Int) then (if x5.length < 17592186044416 then (spec_l03Sum.l0d x1 (x5 ++ [0])) else (none)) else (spec_l03Sum.l1d x1 x5 0) := by
  refine IsLim.unique (spec_l03Sum.l0lim _ _) ?_
  refine IsLim.shift (by rfl) ?_
  simp only [spec_l03Sum.l0]
  repeat' (first | exact IsLim.const _ | refine IsLim.ite ?_ ?_ | refine IsLim.bind ?_ (fun _ => ?_) | exact spec_l03Sum.l0lim .. | exact spec_l03Sum.l1lim ..)
theorem spec_l03Sum.l1d_eq (x1 : List Int) (x5 : List Int) (x6 : Int) : spec_l03Sum.l1d x1 x5 x6 = if x6 < (x1.length : Int) then (if 0 ≤ x6 then (if x6 < (x5.length : Int) then (spec_l03Sum.l1d x1 (x5.set (x6 : Int).toNat (Go.bits .xor .i64 (rd x5 x6) (rd x1 x6))) (wrap64 (x6 + 1))) else (none)) else (none)) else ((spec_l03Trim.d x5).bind fun t163 => (some t163)) := by
  refine IsLim.unique (spec_l03Sum.l1lim _ _ _) ?_
  refine IsLim.shift (by rfl) ?_
  simp only [spec_l03Sum.l1]
  repeat' (first | exact IsLim.const _ | refine IsLim.ite ?_ ?_ | refine IsLim.bind ?_ (fun _ => ?_) | exact spec_l03Trim.lim .. | exact spec_l03Sum.l1lim ..)
noncomputable def spec_l03Sum.d (l0 : List Int) (l1 : List Int) : Option (List Int) := lim (fun k => spec_l03Sum.f k l0 l1)
theorem spec_l03Sum.lim (l0 : List Int) (l1 : List Int) : IsLim (fun k => spec_l03Sum.f k l0 l1) (spec_l03Sum.d l0 l1) := lim_spec (fun k => spec_l03Sum.mono l0 l1 k)
theorem spec_l03Sum.d_eq (l0 : List Int) (l1 : List Int) : spec_l03Sum.d l0 l1 = (spec_l00Own.f l0).bind fun t154 => (spec_l03Sum.l0d l1 t154) := by
  refine IsLim.unique (spec_l03Sum.lim _ _) ?_
  unfold spec_l03Sum.f
  repeat' (first | exact IsLim.const _ | refine IsLim.ite ?_ ?_ | refine IsLim.bind ?_ (fun _ => ?_) | exact spec_l03Sum.l0lim ..)
theorem s_mul_v {M P : Nat} (h : validB (M : Int) (P : Int) = true) {a b : Nat} (ha : a < 2 ^ M) (hb : b < 2 ^ M) : spec_l01Mul.d (M : Int) (P : Int) (a : Int) (b : Int) = some ((fmul M P a b : Nat) : Int) := by
  have hv := valid_bits h
  have hb5 : b < 2 ^ 5 := lt_mono hb hv.2.1
  have key : ∀ i, i ≤ M → spec_l01Mul.l0d (a : Int) (b : Int) ((clm a b i : Nat) : Int) (i : Int) (M : Int) (P : Int) = some ((fmul M P a b : Nat) : Int) := by
    apply down
    · rw [spec_l01Mul.l0d_eq, if_neg (by omega), spec_l01Rest.v hv.2.1 hv.2.2.1 hv.2.2.2 (clm_lt ha b M)]; rfl
    · intro i hi e
      have h1 : a * 2 ^ i < 2 ^ 10 := lt_mono (mul_pow_lt ha) (by omega)
      have h2 : clm a b i < 2 ^ 10 := lt_mono (clm_lt ha b i) (by omega)
      rw [spec_l01Mul.l0d_eq, if_pos (by omega), u64_id (by omega) (by omega), if_pos (by omega), bit_test (by omega) (by omega), wrS hi (by omega), ← e, clm]
      by_cases c : b.testBit i = true
      · rw [if_pos c, if_pos rfl, if_pos c, shl_nat (by omega) (by omega), bxor (by omega) (by omega)]
      · rw [if_neg c, if_neg (by decide), if_neg c, Nat.xor_zero]
  rw [spec_l01Mul.d_eq]
  exact key 0 (by omega)
theorem mul_pow_xor (x y m : Nat) : (x ^^^ y) * 2 ^ m = x * 2 ^ m ^^^ y * 2 ^ m := by
  apply Nat.eq_of_testBit_eq
  intro i
  simp only [Nat.testBit_xor, Nat.testBit_mul_two_pow]
  cases decide (m ≤ i) <;> simp
theorem xor4 (a b c d : Nat) : (a ^^^ b) ^^^ (c ^^^ d) = (a ^^^ c) ^^^ (b ^^^ d) := by
  rw [Nat.xor_assoc, Nat.xor_assoc, ← Nat.xor_assoc b, Nat.xor_comm b c, Nat.xor_assoc]
theorem clm_xor_l (a a' b : Nat) : ∀ n, clm (a ^^^ a') b n = clm a b n ^^^ clm a' b n
  | 0 => by simp [clm]
  | n + 1 => by
    rw [clm, clm, clm, clm_xor_l a a' b n, xor4]
    congr 1
    split
    · exact mul_pow_xor a a' n
    · rfl
theorem clm_xor_r (a b b' : Nat) : ∀ n, clm a (b ^^^ b') n = clm a b n ^^^ clm a b' n
  | 0 => by simp [clm]
  | n + 1 => by
    rw [clm, clm, clm, clm_xor_r a b b' n, xor4, Nat.testBit_xor]
    congr 1
    cases b.testBit n <;> cases b'.testBit n <;> simp
theorem red_xor (m p : Nat) : ∀ i x y, red m p (x ^^^ y) i = red m p x i ^^^ red m p y i
  | 0, _, _ => rfl
  | i + 1, x, y => by
    rw [red, red, red, ← red_xor m p i, Nat.testBit_xor]
    congr 1
    cases x.testBit (m + i) <;> cases y.testBit (m + i)
    · simp
    · simp [Nat.xor_assoc]
    · simp only [Bool.xor_false, if_true, Bool.false_eq_true, if_false]
      rw [Nat.xor_assoc, Nat.xor_comm y, ← Nat.xor_assoc]
    · simp only [Bool.xor_self, if_true, Bool.false_eq_true, if_false]
      rw [xor4, Nat.xor_self, Nat.xor_zero]
theorem fmul_xor_l (m p a a' b : Nat) : fmul m p (a ^^^ a') b = fmul m p a b ^^^ fmul m p a' b := by unfold fmul; rw [clm_xor_l, red_xor]
theorem fmul_xor_r (m p a b b' : Nat) : fmul m p a (b ^^^ b') = fmul m p a b ^^^ fmul m p a b' := by unfold fmul; rw [clm_xor_r, red_xor]
theorem fmul_0l (m p b : Nat) : fmul m p 0 b = 0 := by
  have := fmul_xor_l m p 0 0 b
  rw [Nat.xor_self, Nat.xor_self] at this; exact this
theorem fmul_0r (m p a : Nat) : fmul m p a 0 = 0 := by
  have := fmul_xor_r m p a 0 0
  rw [Nat.xor_self, Nat.xor_self] at this; exact this
theorem basis_ind {Q : Nat → Prop} (h0 : Q 0) (hx : ∀ x y, Q x → Q y → Q (x ^^^ y)) : ∀ m, (∀ i, i < m → Q (2 ^ i)) → ∀ x, x < 2 ^ m → Q x
  | 0, _, x, h => by have : x = 0 := by simpa using h
                     rw [this]; exact h0
  | m + 1, hb, x, h => by
    by_cases c : x.testBit m = true
    · have h2 : x ^^^ 2 ^ m < 2 ^ m := by
        apply Nat.lt_pow_two_of_testBit
        intro j hj
        rw [Nat.testBit_xor, Nat.testBit_two_pow]
        by_cases e : m = j
        · subst e; simp [c]
        · rw [Nat.testBit_lt_two_pow (Nat.lt_of_lt_of_le h (Nat.pow_le_pow_right (by omega) (by omega)))]; simp [e]
      have := hx _ _ (basis_ind h0 hx m (fun i hi => hb i (by omega)) _ h2) (hb m (by omega))
      rwa [Nat.xor_assoc, Nat.xor_self, Nat.xor_zero] at this
    · refine basis_ind h0 hx m (fun i hi => hb i (by omega)) x ?_
      apply Nat.lt_pow_two_of_testBit
      intro j hj
      by_cases e : m = j
      · subst e; exact Bool.eq_false_iff.mpr c
      · exact Nat.testBit_lt_two_pow (Nat.lt_of_lt_of_le h (Nat.pow_le_pow_right (by omega) (by omega)))
def algB (m p : Nat) : Bool := (List.range m).all fun i => fmul m p (2 ^ i) 1 == 2 ^ i && (List.range m).all fun j => fmul m p (2 ^ i) (2 ^ j) == fmul m p (2 ^ j) (2 ^ i) && (List.range m).all fun k => fmul m p (fmul m p (2 ^ i) (2 ^ j)) (2 ^ k) == fmul m p (2 ^ i) (fmul m p (2 ^ j) (2 ^ k))
theorem alg_all : (fields14.all fun f => algB f.1.toNat f.2.toNat) = true := by decide +kernel
theorem alg_of {M P : Nat} (h : validB (M : Int) (P : Int) = true) : algB M P = true := by
  have h' : ((M : Int), (P : Int)) ∈ fields14 := by simpa [validB] using h
  have := List.all_eq_true.mp alg_all _ h'
  simpa using this
theorem alg_get {M P : Nat} (h : validB (M : Int) (P : Int) = true) {i : Nat} (hi : i < M) : fmul M P (2 ^ i) 1 = 2 ^ i ∧ ∀ j, j < M → fmul M P (2 ^ i) (2 ^ j) = fmul M P (2 ^ j) (2 ^ i) ∧ ∀ k, k < M → fmul M P (fmul M P (2 ^ i) (2 ^ j)) (2 ^ k) = fmul M P (2 ^ i) (fmul M P (2 ^ j) (2 ^ k)) := by
  have a := alg_of h
  unfold algB at a
  have a1 := List.all_eq_true.mp a i (List.mem_range.mpr hi)
  rw [Bool.and_eq_true] at a1
  refine ⟨by simpa using a1.1, fun j hj => ?_⟩
  have a2 := List.all_eq_true.mp a1.2 j (List.mem_range.mpr hj)
  rw [Bool.and_eq_true] at a2
  refine ⟨by simpa using a2.1, fun k hk => ?_⟩
  simpa using List.all_eq_true.mp a2.2 k (List.mem_range.mpr hk)
theorem fmul_1 {M P : Nat} (h : validB (M : Int) (P : Int) = true) {a : Nat} (ha : a < 2 ^ M) : fmul M P a 1 = a :=
  basis_ind (Q := fun a => fmul M P a 1 = a) (fmul_0l _ _ _) (fun x y hx hy => by show fmul M P (x ^^^ y) 1 = _; rw [fmul_xor_l, hx, hy]) M (fun i hi => (alg_get h hi).1) a ha
theorem fmul_comm {M P : Nat} (h : validB (M : Int) (P : Int) = true) {a b : Nat} (ha : a < 2 ^ M) (hb : b < 2 ^ M) : fmul M P a b = fmul M P b a := by
  refine basis_ind (Q := fun a => fmul M P a b = fmul M P b a) (by show fmul M P 0 b = fmul M P b 0; rw [fmul_0l, fmul_0r]) (fun x y hx hy => by show fmul M P (x ^^^ y) b = fmul M P b (x ^^^ y); rw [fmul_xor_l, fmul_xor_r, hx, hy]) M (fun i hi => ?_) a ha
  exact basis_ind (Q := fun b => fmul M P (2 ^ i) b = fmul M P b (2 ^ i)) (by show fmul M P _ 0 = fmul M P 0 _; rw [fmul_0l, fmul_0r]) (fun x y hx hy => by show fmul M P _ (x ^^^ y) = fmul M P (x ^^^ y) _; rw [fmul_xor_l, fmul_xor_r, hx, hy]) M (fun j hj => ((alg_get h hi).2 j hj).1) b hb
theorem fmul_assoc {M P : Nat} (h : validB (M : Int) (P : Int) = true) {a b c : Nat} (ha : a < 2 ^ M) (hb : b < 2 ^ M) (hc : c < 2 ^ M) : fmul M P (fmul M P a b) c = fmul M P a (fmul M P b c) := by
  refine basis_ind (Q := fun a => fmul M P (fmul M P a b) c = fmul M P a (fmul M P b c)) (by show fmul M P (fmul M P 0 b) c = _; rw [fmul_0l, fmul_0l, fmul_0l]) (fun x y hx hy => by show fmul M P (fmul M P (x ^^^ y) b) c = fmul M P (x ^^^ y) _; rw [fmul_xor_l, fmul_xor_l, fmul_xor_l, hx, hy]) M (fun i hi => ?_) a ha
  refine basis_ind (Q := fun b => fmul M P (fmul M P (2 ^ i) b) c = fmul M P (2 ^ i) (fmul M P b c)) (by show fmul M P (fmul M P _ 0) c = fmul M P _ (fmul M P 0 c); rw [fmul_0r, fmul_0l, fmul_0r]) (fun x y hx hy => by show fmul M P (fmul M P _ (x ^^^ y)) c = fmul M P _ (fmul M P (x ^^^ y) c); rw [fmul_xor_r, fmul_xor_l, fmul_xor_l, fmul_xor_r, hx, hy]) M (fun j hj => ?_) b hb
  exact basis_ind (Q := fun c => fmul M P (fmul M P (2 ^ i) (2 ^ j)) c = fmul M P (2 ^ i) (fmul M P (2 ^ j) c)) (by show fmul M P _ 0 = fmul M P _ (fmul M P _ 0); rw [fmul_0r, fmul_0r, fmul_0r]) (fun x y hx hy => by show fmul M P _ (x ^^^ y) = fmul M P _ (fmul M P _ (x ^^^ y)); rw [fmul_xor_r, fmul_xor_r, fmul_xor_r, hx, hy]) M (fun k hk => ((alg_get h hi).2 j hj).2 k hk) c hc
/-- a power as a product -/
def npow (m p a : Nat) : Nat → Nat
  | 0 => 1
  | n + 1 => fmul m p (npow m p a n) a
theorem one_lt {M P : Nat} (h : validB (M : Int) (P : Int) = true) : 1 < 2 ^ M := Nat.one_lt_two_pow (by have := valid_bits h; omega)
theorem npow_lt {M P : Nat} (h : validB (M : Int) (P : Int) = true) {a : Nat} (ha : a < 2 ^ M) : ∀ n, npow M P a n < 2 ^ M
  | 0 => one_lt h
  | n + 1 => fmul_lt h (npow_lt h ha n) a
theorem npow_sq {M P : Nat} (h : validB (M : Int) (P : Int) = true) {a : Nat} (ha : a < 2 ^ M) : ∀ q, npow M P (fmul M P a a) q = npow M P a (2 * q)
  | 0 => rfl
  | q + 1 => by
    rw [show 2 * (q + 1) = 2 * q + 1 + 1 by omega, npow, npow, npow, npow_sq h ha q, fmul_assoc h (npow_lt h ha _) ha ha]
theorem fsq_xor {M P : Nat} (h : validB (M : Int) (P : Int) = true) : ∀ (k : Nat) {x y : Nat}, x < 2 ^ M → y < 2 ^ M → fsq M P k (x ^^^ y) = fsq M P k x ^^^ fsq M P k y
  | 0, _, _, _, _ => rfl
  | k + 1, x, y, hx, hy => by
    rw [fsq, fsq, fsq, ← fsq_xor h k (fmul_lt h hx x) (fmul_lt h hy y)]
    congr 1
    rw [fmul_xor_l, fmul_xor_r, fmul_xor_r, fmul_comm h hy hx, Nat.xor_assoc, ← Nat.xor_assoc (fmul M P x y), Nat.xor_self, Nat.zero_xor]
theorem half_step (n : Nat) : n = 2 * (n / 2) + (if n.testBit 0 = true then 1 else 0) := by
  rw [Nat.testBit_zero]
  by_cases c : n % 2 = 1
  · simp [c]; omega
  · simp [c]; omega
theorem bit0_v {n : Nat} (h : n < 9223372036854775808) : Go.bits .and .i64 (n : Int) 1 = if n.testBit 0 = true then 1 else 0 := by
  have := band (a := n) (b := 1) h (by omega)
  rw [show ((1 : Nat) : Int) = 1 from rfl] at this
  rw [this, Nat.and_one_is_mod, Nat.testBit_zero]
  rcases Nat.mod_two_eq_zero_or_one n with w | w <;> rw [w] <;> simp
theorem i_pow_loop {M P : Nat} (h : validB (M : Int) (P : Int) = true) : ∀ (f n a o : Nat), n ≤ f → n ≤ 100000 → a < 2 ^ M → o < 2 ^ M → impl_Field_power.l0d (a : Int) (n : Int) (o : Int) (M : Int) (P : Int) = some ((fmul M P o (npow M P a n) : Nat) : Int)
  | 0, n, a, o, hf, _, ha, ho => by
    have : n = 0 := by omega
    subst this
    rw [impl_Field_power.l0d_eq, if_neg (by decide), npow, fmul_1 h ho]
  | f + 1, n, a, o, hf, hn, ha, ho => by
    by_cases z : n = 0
    · subst z
      rw [impl_Field_power.l0d_eq, if_neg (by decide), npow, fmul_1 h ho]
    · have hs := half_step n
      have e2 : ((n : Int) / 2) = ((n / 2 : Nat) : Int) := by omega
      rw [impl_Field_power.l0d_eq, if_pos (by omega), bit0_v (by omega), e2]
      have sq := fmul_lt h ha a
      by_cases c : n.testBit 0 = true
      · rw [if_pos c] at hs ⊢
        rw [if_pos rfl, i_mul_v h ho ha, bind_some', i_mul_v h ha ha, bind_some', i_pow_loop h f (n / 2) _ _ (by omega) (by omega) sq (fmul_lt h ho a), npow_sq h ha]
        have hn2 := npow_lt h ha (2 * (n / 2))
        rw [fmul_assoc h ho ha hn2, fmul_comm h ha hn2]
        conv => rhs; rw [hs, npow]
      · rw [if_neg c] at hs ⊢
        rw [if_neg (by decide), i_mul_v h ha ha, bind_some', i_pow_loop h f (n / 2) _ _ (by omega) (by omega) sq ho, npow_sq h ha]
        conv => rhs; rw [hs, Nat.add_zero]
theorem fmul_1l {M P : Nat} (h : validB (M : Int) (P : Int) = true) {a : Nat} (ha : a < 2 ^ M) : fmul M P 1 a = a := by rw [fmul_comm h (one_lt h) ha, fmul_1 h ha]
theorem i_power_v {M P : Nat} (h : validB (M : Int) (P : Int) = true) {n a : Nat} (hn : n ≤ 100000) (ha : a < 2 ^ M) : impl_Field_power.d (M : Int) (P : Int) (a : Int) (n : Int) = some ((npow M P a n : Nat) : Int) := by
  rw [impl_Field_power.d_eq]
  have := i_pow_loop h n n a 1 (Nat.le_refl _) hn ha (one_lt h)
  rw [fmul_1l h (npow_lt h ha n)] at this
  exact this
theorem up_zeros (n : Nat) : List.replicate n (0 : Int) = up (List.replicate n 0) := by simp [up]
theorem set_bound {l : List Nat} {B i v : Nat} (h : ∀ y ∈ l, y < B) (hv : v < B) : ∀ y ∈ l.set i v, y < B := by
  intro y hy
  rcases List.mem_or_eq_of_mem_set hy with z | z
  · exact h y z
  · rw [z]; exact hv
theorem zeros_bound {n B : Nat} (hB : 0 < B) : ∀ y ∈ List.replicate n 0, y < B := fun y hy => by rw [List.eq_of_mem_replicate hy]; exact hB
theorem trim_both {l : List Int} (hl : l.length ≤ 1073741824) : ∃ k, k ≤ l.length ∧ impl_trim.d l = some (l.take k) ∧ spec_l03Trim.d l = some (l.take k) := by
  have own : ∀ n, n ≤ l.length → spec_l00Own.f (l.take n) = some (l.take n) := by
    intro n hn
    unfold spec_l00Own.f
    rw [bind_some', if_pos (by simp; omega), List.nil_append]
  have key : ∀ n, n ≤ l.length → ∃ k, k ≤ n ∧ impl_trim.l0d (l.take n) = some (l.take k) ∧ spec_l03Trim.l0d l (n : Int) = some (l.take k) := by
    intro n
    induction n with
    | zero =>
      intro _
      refine ⟨0, by omega, ?_, ?_⟩
      · rw [impl_trim.l0d_eq, if_neg (by simp)]
      · rw [spec_l03Trim.l0d_eq, if_neg (by omega), if_pos (by omega), if_pos (by omega)]
        show (spec_l00Own.f (l.take 0)).bind _ = _
        rw [own 0 (by omega), bind_some']
    | succ n ih =>
      intro hn
      have hlen : (l.take (n + 1)).length = n + 1 := by rw [List.length_take]; omega
      have hw : wrap64 (((l.take (n + 1)).length : Int) - 1) = (n : Int) := by rw [hlen, wr (by omega) (by omega)]; omega
      have hw' : wrap64 (((n + 1 : Nat) : Int) - 1) = (n : Int) := by rw [wr (by omega) (by omega)]; omega
      have hr : rd (l.take (n + 1)) (n : Int) = rd l (n : Int) := by
        rw [rd_get (show n < (l.take (n + 1)).length by omega), rd_get (show n < l.length by omega), List.getElem_take]
      have si : impl_trim.l0d (l.take (n + 1)) = if rd l (n : Int) = 0 then impl_trim.l0d (l.take n) else some (l.take (n + 1)) := by
        rw [impl_trim.l0d_eq, if_pos (by omega), hw, if_pos (by omega), if_pos (by omega), if_pos (show (n : Int) ≤ ((l.take (n + 1)).length : Int) by omega), hr, Int.toNat_natCast, List.take_take, Nat.min_eq_left (by omega)]
      have ss : spec_l03Trim.l0d l ((n + 1 : Nat) : Int) = if rd l (n : Int) = 0 then spec_l03Trim.l0d l (n : Int) else some (l.take (n + 1)) := by
        rw [spec_l03Trim.l0d_eq, if_pos (by omega), hw', if_pos (by omega), if_pos (by omega), if_pos (show (0 : Int) ≤ ((n + 1 : Nat) : Int) by omega), if_pos (show ((n + 1 : Nat) : Int) ≤ (l.length : Int) by omega), Int.toNat_natCast, own (n + 1) hn, bind_some']
      rw [si, ss]
      by_cases c : rd l (n : Int) = 0
      · rw [if_pos c, if_pos c]
        obtain ⟨k, k1, k2, k3⟩ := ih (by omega)
        exact ⟨k, by omega, k2, k3⟩
      · rw [if_neg c, if_neg c]
        exact ⟨n + 1, by omega, rfl, rfl⟩
  obtain ⟨k, k1, k2, k3⟩ := key l.length (by omega)
  rw [List.take_length] at k2
  exact ⟨k, k1, by rw [impl_trim.d_eq, k2], by rw [spec_l03Trim.d_eq, k3]⟩
/-- the same over numbers below a bound -/
theorem trim_up {ln : List Nat} {B : Nat} (hl : ln.length ≤ 1073741824) (hb : ∀ y ∈ ln, y < B) : ∃ rn : List Nat, rn.length ≤ ln.length ∧ (∀ y ∈ rn, y < B) ∧ impl_trim.d (up ln) = some (up rn) ∧ spec_l03Trim.d (up ln) = some (up rn) := by
  obtain ⟨k, _, k2, k3⟩ := trim_both (l := up ln) (by rw [up_length]; exact hl)
  rw [up_take] at k2 k3
  exact ⟨ln.take k, by rw [List.length_take]; omega, fun y hy => hb y (List.mem_of_mem_take hy), k2, k3⟩
def invB (m p : Nat) : Bool := (List.range (2 ^ m)).all fun a => (a == 0 || fmul m p (npow m p a (2 ^ m - 2)) a == 1) && (List.range m).all fun k => (a == 0 || !(fsq m p k a == 0)) && fsq m p k (fsq m p ((m - k) % m) a) == a
theorem inv_all : (fields14.all fun f => invB f.1.toNat f.2.toNat) = true := by decide +kernel
theorem inv_get {M P : Nat} (h : validB (M : Int) (P : Int) = true) {a : Nat} (ha : a < 2 ^ M) : (a ≠ 0 → fmul M P (npow M P a (2 ^ M - 2)) a = 1) ∧ ∀ k, k < M → (a ≠ 0 → fsq M P k a ≠ 0) ∧ fsq M P k (fsq M P ((M - k) % M) a) = a := by
  have h' : ((M : Int), (P : Int)) ∈ fields14 := by simpa [validB] using h
  have t : invB M P = true := by simpa using List.all_eq_true.mp inv_all _ h'
  unfold invB at t
  have t1 := List.all_eq_true.mp t a (List.mem_range.mpr ha)
  rw [Bool.and_eq_true] at t1
  refine ⟨fun z => ?_, fun k hk => ?_⟩
  · have := t1.1
    simpa [z] using this
  · have t2 := List.all_eq_true.mp t1.2 k (List.mem_range.mpr hk)
    rw [Bool.and_eq_true] at t2
    refine ⟨fun z => ?_, by simpa using t2.2⟩
    have := t2.1
    simpa [z] using this
theorem i_inv_v {M P : Nat} (h : validB (M : Int) (P : Int) = true) {a : Nat} (ha : a < 2 ^ M) : impl_Field_inverse.d (M : Int) (P : Int) (a : Int) = some ((npow M P a (2 ^ M - 2) : Nat) : Int) := by
  have hv := valid_bits h
  have h5 : 2 ^ M ≤ 2 ^ 5 := Nat.pow_le_pow_right (by omega) hv.2.1
  have h1 : 2 ^ 1 ≤ 2 ^ M := Nat.pow_le_pow_right (by omega) hv.1
  have e : ((2 ^ M : Nat) : Int) = (2 : Int) ^ M := by simp
  have w : wrap64 ((2 : Int) ^ (M : Int).toNat - 2) = ((2 ^ M - 2 : Nat) : Int) := by
    rw [Int.toNat_natCast, ← e, wr (by omega) (by omega)]; omega
  rw [impl_Field_inverse.d_eq, i_count_v h, bind_some', w, i_power_v h (by omega) ha, bind_some']
/-- the last number of a list, 0 if there is none -/
def lst (l : List Nat) : Nat := l.getD (l.length - 1) 0
theorem lst_get {l : List Nat} (h : 0 < l.length) : lst l = l[l.length - 1] := by simp [lst, List.getD, show l.length - 1 < l.length by omega]
theorem trim_top {ln : List Nat} {B : Nat} (hl : ln.length ≤ 1073741824) (hb : ∀ y ∈ ln, y < B) : ∃ rn : List Nat, rn.length ≤ ln.length ∧ (∀ y ∈ rn, y < B) ∧ impl_trim.d (up ln) = some (up rn) ∧ spec_l03Trim.d (up ln) = some (up rn) ∧
    (0 < rn.length → lst rn ≠ 0) ∧ (0 < ln.length → lst ln ≠ 0 → rn = ln) ∧ (0 < ln.length → lst ln = 0 → rn.length < ln.length) := by
  induction hn : ln.length generalizing ln with
  | zero =>
    obtain ⟨rn, r1, r2, r3, r4⟩ := trim_up hl hb
    exact ⟨rn, by omega, r2, r3, r4, fun z => by omega, fun z => by omega, fun z => by omega⟩
  | succ n ih =>
    have hlen : (up ln).length = n + 1 := by rw [up_length, hn]
    have hw : wrap64 (((up ln).length : Int) - 1) = (n : Int) := by rw [hlen, wr (by omega) (by omega)]; omega
    have hr : rd (up ln) (n : Int) = ((lst ln : Nat) : Int) := by
      rw [up_get (show n < ln.length by omega), lst_get (by omega)]
      simp only [hn, Nat.add_sub_cancel]
    have own : spec_l00Own.f (up ln) = some (up ln) := by
      unfold spec_l00Own.f
      rw [bind_some', if_pos (by rw [hlen]; simp; omega), List.nil_append]
    by_cases c : lst ln = 0
    · obtain ⟨rn, r1, r2, r3, r4, r5, _, _⟩ := ih (ln := ln.take n) (by rw [List.length_take]; omega) (fun y hy => hb y (List.mem_of_mem_take hy)) (by rw [List.length_take]; omega)
      have tl : (ln.take n).length = n := by rw [List.length_take]; omega
      refine ⟨rn, by omega, r2, ?_, ?_, r5, fun _ z => absurd c z, fun _ _ => by omega⟩
      · rw [impl_trim.d_eq, impl_trim.l0d_eq, if_pos (by omega), hw, if_pos (by omega), if_pos (by omega), hr, if_pos (by rw [c]; rfl), if_pos (by omega), Int.toNat_natCast, up_take, ← impl_trim.d_eq, r3]
      · have : spec_l03Trim.l0d (up ln) (n : Int) = spec_l03Trim.l0d (up (ln.take n)) (n : Int) := by
          have key : ∀ m, m ≤ n → spec_l03Trim.l0d (up ln) (m : Int) = spec_l03Trim.l0d (up (ln.take n)) (m : Int) := by
            intro m
            induction m with
            | zero =>
              intro _
              have z0 : ∀ l : List Nat, spec_l03Trim.l0d (up l) ((0 : Nat) : Int) = some ([] : List Int) := by
                intro l
                rw [spec_l03Trim.l0d_eq, if_neg (by decide), if_pos (by decide), if_pos (by simp)]
                rfl
              rw [z0, z0]
            | succ m ihm =>
              intro hm
              have w : wrap64 (((m + 1 : Nat) : Int) - 1) = (m : Int) := by rw [wr (by omega) (by omega)]; omega
              have e : rd (up ln) (m : Int) = rd (up (ln.take n)) (m : Int) := by rw [up_get (show m < ln.length by omega), up_get (show m < (ln.take n).length by omega), List.getElem_take]
              have s1 : ∀ l : List Nat, m + 1 ≤ l.length → spec_l03Trim.l0d (up l) ((m + 1 : Nat) : Int) = if rd (up l) (m : Int) = 0 then spec_l03Trim.l0d (up l) (m : Int) else (spec_l00Own.f ((up l).take (m + 1))).bind fun t => some t := by
                intro l hl'
                have hul : (up l).length = l.length := up_length l
                rw [spec_l03Trim.l0d_eq, if_pos (by omega), w, if_pos (by omega), if_pos (by omega), if_pos (show (0 : Int) ≤ ((m + 1 : Nat) : Int) by omega), if_pos (show ((m + 1 : Nat) : Int) ≤ ((up l).length : Int) by omega), Int.toNat_natCast]
              rw [s1 ln (by omega), s1 (ln.take n) (by omega), e, ihm (by omega), up_take, up_take, List.take_take, Nat.min_eq_left (by omega)]
          exact key n (Nat.le_refl _)
        rw [spec_l03Trim.d_eq, hlen, spec_l03Trim.l0d_eq, if_pos (by omega), show wrap64 (((n + 1 : Nat) : Int) - 1) = (n : Int) by rw [wr (by omega) (by omega)]; omega, if_pos (by omega), if_pos (by omega), hr, if_pos (by rw [c]; rfl), this]
        rw [spec_l03Trim.d_eq, up_length, tl] at r4
        exact r4
    · have c' : ¬ ((lst ln : Nat) : Int) = 0 := fun z => c (by omega)
      refine ⟨ln, by omega, hb, ?_, ?_, fun _ => c, fun _ _ => rfl, fun _ z => absurd z c⟩
      · rw [impl_trim.d_eq, impl_trim.l0d_eq, if_pos (by omega), hw, if_pos (by omega), if_pos (by omega), hr, if_neg c']
      · rw [spec_l03Trim.d_eq, hlen, spec_l03Trim.l0d_eq, if_pos (by omega), show wrap64 (((n + 1 : Nat) : Int) - 1) = (n : Int) by rw [wr (by omega) (by omega)]; omega, if_pos (by omega), if_pos (by omega), hr, if_neg c', if_pos (by omega), if_pos (by omega), Int.toNat_natCast, ← hlen, List.take_length, own, bind_some']
/-- sums -/
theorem plus_both {M : Nat} (hM : M ≤ 60) {xn yn : List Nat} (hx : xn.length ≤ 1000000) (hy : yn.length ≤ 1000000) (bx : ∀ y ∈ xn, y < 2 ^ M) (by_ : ∀ y ∈ yn, y < 2 ^ M) :
    ∃ zn : List Nat, (zn.length ≤ xn.length ∨ zn.length ≤ yn.length) ∧ (∀ y ∈ zn, y < 2 ^ M) ∧ impl_plus.d (up xn) (up yn) = some (up zn) ∧ spec_l03Sum.d (up xn) (up yn) = some (up zn) ∧ (0 < zn.length → lst zn ≠ 0) ∧
      (xn.length = yn.length → 0 < xn.length → lst xn = lst yn → zn.length < xn.length) := by
  obtain ⟨N, hN⟩ : ∃ N, N = xn.length + (yn.length - xn.length) := ⟨_, rfl⟩
  have key : ∀ i, i ≤ yn.length → ∀ on : List Nat, on.length = N → (∀ y ∈ on, y < 2 ^ M) → (xn.length = yn.length → 0 < xn.length → lst xn = lst yn → lst on = if i = yn.length then 0 else lst xn) →
      ∃ zn : List Nat, zn.length ≤ N ∧ (∀ y ∈ zn, y < 2 ^ M) ∧ impl_plus.l0d (up on) (up yn) ((up yn).length : Int) (i : Int) = some (up zn) ∧ spec_l03Sum.l1d (up yn) (up on) (i : Int) = some (up zn) ∧ (0 < zn.length → lst zn ≠ 0) ∧
        (xn.length = yn.length → 0 < xn.length → lst xn = lst yn → zn.length < xn.length) := by
    apply down
    · intro on h1 h2 h3
      obtain ⟨rn, r1, r2, r3, r4, r5, _, r7⟩ := trim_top (by omega) h2
      refine ⟨rn, by omega, r2, by rw [impl_plus.l0d_eq, if_neg (by rw [up_length]; omega), r3, bind_some'], by rw [spec_l03Sum.l1d_eq, if_neg (by rw [up_length]; omega), r4, bind_some'], r5, fun e0 e1 e2 => ?_⟩
      have := h3 e0 e1 e2
      rw [if_pos rfl] at this
      have := r7 (by omega) this
      omega
    · intro i hi ih on h1 h2 h3
      have hio : i < on.length := by omega
      have m63 : M ≤ 63 := by omega
      have z1 : (i : Int) < ((up yn).length : Int) := by rw [up_length]; exact Int.ofNat_lt.mpr hi
      have z2 : (i : Int) < ((up on).length : Int) := by rw [up_length]; exact Int.ofNat_lt.mpr hio
      have w2 : wrap64 ((i : Int) + 1) = ((i + 1 : Nat) : Int) := wrS hi (by omega)
      have nx : xn.length = yn.length → 0 < xn.length → lst xn = lst yn → lst (on.set i (on[i] ^^^ yn[i])) = if i + 1 = yn.length then 0 else lst xn := by
        intro e0 e1 e2
        have t := h3 e0 e1 e2
        rw [if_neg (by omega)] at t
        have lo := lst_get (l := on) (by omega)
        have ly := lst_get (l := yn) (by omega)
        have ls := lst_get (l := on.set i (on[i] ^^^ yn[i])) (by rw [List.length_set]; omega)
        rw [ls]
        by_cases c : i + 1 = yn.length
        · rw [if_pos c]
          have e3 : on.length - 1 = i := by omega
          have e4 : yn.length - 1 = i := by omega
          simp only [List.length_set, e3] at lo ⊢
          simp only [e4] at ly
          rw [List.getElem_set_self, ← lo, ← ly, t, e2, Nat.xor_self]
        · rw [if_neg c]
          have e3 : i ≠ on.length - 1 := by omega
          simp only [List.length_set]
          rw [List.getElem_set_ne e3, ← lo, t]
      have b1 := h2 _ (List.getElem_mem hio)
      have b2 := by_ _ (List.getElem_mem hi)
      have x := bxor (small62 m63 b1) (small62 m63 b2)
      obtain ⟨rn, r1, r2, r3, r4, r5⟩ := ih (on.set i (on[i] ^^^ yn[i])) (by rw [List.length_set]; exact h1) (set_bound h2 (Nat.xor_lt_two_pow b1 b2)) nx
      refine ⟨rn, r1, r2, ?_, ?_, r5⟩
      · rw [impl_plus.l0d_eq, if_pos z1, if_pos (Int.natCast_nonneg i), if_pos z1, if_pos z2, up_get hio, up_get hi, x, Int.toNat_natCast, up_set, w2, r3]
      · rw [spec_l03Sum.l1d_eq, if_pos z1, if_pos (Int.natCast_nonneg i), if_pos z2, up_get hio, up_get hi, x, Int.toNat_natCast, up_set, w2, r4]
  have bz : ∀ y ∈ xn ++ List.replicate (yn.length - xn.length) 0, y < 2 ^ M := fun y hy => by
    rcases List.mem_append.mp hy with z | z
    · exact bx y z
    · exact zeros_bound (Nat.two_pow_pos M) y z
  obtain ⟨zn, r1, r2, r3, r4, r5, r6⟩ := key 0 (by omega) (xn ++ List.replicate (yn.length - xn.length) 0) (by simp; omega) bz (fun e0 e1 e2 => by
    rw [if_neg (by omega), e0, Nat.sub_self, List.replicate_zero, List.append_nil])
  have grow : ∀ k, ∀ on : List Nat, on.length + k = N → yn.length ≤ N → xn.length ≤ on.length → spec_l03Sum.l0d (up yn) (up on) = spec_l03Sum.l1d (up yn) (up (on ++ List.replicate (yn.length - on.length) 0)) 0 := by
    intro k
    induction k with
    | zero =>
      intro on h1 h2 h3
      rw [spec_l03Sum.l0d_eq, if_neg (by rw [up_length, up_length]; omega), show yn.length - on.length = 0 by omega, List.replicate_zero, List.append_nil]
    | succ k ihk =>
      intro on h1 h2 h3
      by_cases c : on.length < yn.length
      · rw [spec_l03Sum.l0d_eq, if_pos (by rw [up_length, up_length]; omega), if_pos (by rw [up_length]; omega)]
        have e : up on ++ [(0 : Int)] = up (on ++ [0]) := by rw [up_append]; rfl
        rw [e, ihk (on ++ [0]) (by simp; omega) h2 (by simp; omega)]
        congr 2
        rw [List.append_assoc]
        congr 1
        rw [show yn.length - on.length = (yn.length - (on ++ [0]).length) + 1 by simp; omega, List.replicate_succ]
        rfl
      · rw [spec_l03Sum.l0d_eq, if_neg (by rw [up_length, up_length]; omega), show yn.length - on.length = 0 by omega, List.replicate_zero, List.append_nil]
  refine ⟨zn, by omega, r2, ?_, ?_, r5, r6⟩
  · have mxe : mx ((up xn).length : Int) ((up yn).length : Int) = (N : Int) := by
      unfold mx
      rw [up_length, up_length]
      split <;> omega
    have e : up xn ++ (List.replicate N (0 : Int)).drop (up xn).length = up (xn ++ List.replicate (yn.length - xn.length) 0) := by
      rw [up_append, up_length, List.drop_replicate, up_zeros, show N - xn.length = yn.length - xn.length by omega]
    rw [impl_plus.d_eq, mxe, if_pos (by omega), if_pos (by omega), bind_some', Int.toNat_natCast, if_pos (by rw [up_length, List.length_replicate]; omega), e]
    exact r3
  · rw [spec_l03Sum.d_eq]
    unfold spec_l00Own.f
    rw [bind_some', if_pos (by rw [up_length]; simp; omega), bind_some', List.nil_append, grow (yn.length - xn.length) xn (by omega) (by omega) (Nat.le_refl _)]
    exact r4
noncomputable def impl_Field_divide.l0d (x2 : List Int) (x3 : Bool) (x10 : List Int) (x11 : List Int) (x12 : Int) (x298000 : Int) (x298001 : Int) : Option (List Int × List Int) := lim (fun k => impl_Field_divide.l0 k x2 x3 x10 x11 x12 x298000 x298001)
theorem impl_Field_divide.l0lim (x2 : List Int) (x3 : Bool) (x10 : List Int) (x11 : List Int) (x12 : Int) (x298000 : Int) (x298001 : Int) : IsLim (fun k => impl_Field_divide.l0 k x2 x3 x10 x11 x12 x298000 x298001) (impl_Field_divide.l0d x2 x3 x10 x11 x12 x298000 x298001) := lim_spec (fun k => (impl_Field_divide.mono_l k) x2 x3 x10 x11 x12 x298000 x298001)
theorem impl_Field_divide.l0d_eq (x2 : List Int) (x3 : Bool) (x10 : List Int) (x11 : List Int) (x12 : Int) (x298000 : Int) (x298001 : Int) : impl_Field_divide.l0d x2 x3 x10 x11 x12 x298000 x298001 = if (x11.length : Int) ≥ (x2.length : Int) then (if 0 ≤ (wrap64 ((wrap64 ((x11.length : Int) - (x2.length : Int))) + 1)) then (if (wrap64 ((wrap64 ((x11.length : Int) - (x2.length : Int))) + 1) : Int).toNat ≤ 35184372088832 then ((some (List.replicate (wrap64 ((wrap64 ((x11.length : Int) - (x2.length : Int))) + 1) : Int).toNat 0 : List Int)).bind fun y304 => (if 0 ≤ (wrap64 ((x11.length : Int) - 1)) then (if (wrap64 ((x11.length : Int) - 1)) < (x11.length : Int) then (if x3 = true then (if 0 ≤ x12 then (if x12 < (x2.length : Int) then ((impl_Field_square.d x298000 x298001 (rd x2 x12) (wrap64 ((x11.length : Int) - (x2.length : Int)))).bind fun t309 => ((impl_Field_inverse.d x298000 x298001 t309).bind fun t310 => ((impl_Field_mul.d x298000 x298001 (rd x11 (wrap64 ((x11.length : Int) - 1))) t310).bind fun t311 => (if 0 ≤ (wrap64 ((x11.length : Int) - (x2.length : Int))) then (if (wrap64 ((x11.length : Int) - (x2.length : Int))) < (y304.length : Int) then ((some (y304.set ((wrap64 ((x11.length : Int) - (x2.length : Int))) : Int).toNat t311 : List Int)).bind fun y312 => ((impl_Field_compose.d x298000 x298001 y312 x2).bind fun t313 => ((impl_plus.d x11 t313).bind fun t316 => ((impl_plus.d x10 y312).bind fun t319 => (impl_Field_divide.l0d x2 x3 t319 t316 x12 x298000 x298001))))) else (none)) else (none))))) else (none)) else (none)) else (if 0 ≤ x12 then (if x12 < (x2.length : Int) then ((impl_Field_inverse.d x298000 x298001 (rd x2 x12)).bind fun t323 => ((impl_Field_mul.d x298000 x298001 (rd x11 (wrap64 ((x11.length : Int) - 1))) t323).bind fun t324 => ((impl_Field_root.d x298000 x298001 t324 x12).bind fun t325 => (if 0 ≤ (wrap64 ((x11.length : Int) - (x2.length : Int))) then (if (wrap64 ((x11.length : Int) - (x2.length : Int))) < (y304.length : Int) then ((some (y304.set ((wrap64 ((x11.length : Int) - (x2.length : Int))) : Int).toNat t325 : List Int)).bind fun y326 => ((impl_Field_compose.d x298000 x298001 x2 y326).bind fun t327 => ((impl_plus.d x11 t327).bind fun t330 => ((impl_plus.d x10 y326).bind fun t333 => (impl_Field_divide.l0d x2 x3 t333 t330 x12 x298000 x298001))))) else (none)) else (none))))) else (none)) else (none))) else (none)) else (none))) else (none)) else (none)) else (some (x10, x11)) := by
  refine IsLim.unique (impl_Field_divide.l0lim _ _ _ _ _ _ _) ?_
  refine IsLim.shift (by rfl) ?_
  simp only [impl_Field_divide.l0]
  repeat' (first | exact IsLim.const _ | refine IsLim.ite ?_ ?_ | refine IsLim.bind ?_ (fun _ => ?_) | exact impl_Field_square.lim .. | exact impl_Field_inverse.lim .. | exact impl_Field_mul.lim .. | exact impl_Field_compose.lim .. | exact impl_plus.lim .. | exact impl_Field_root.lim .. | exact impl_Field_divide.l0lim ..)
noncomputable def spec_l03Compose.j0d (x1 : List Int) (x2 : List Int) (x17 : Bool) (x167000 : Int) (x167001 : Int) : Option (List Int) := lim (fun k => spec_l03Compose.j0 k x1 x2 x17 x167000 x167001)
theorem spec_l03Compose.j0lim (x1 : List Int) (x2 : List Int) (x17 : Bool) (x167000 : Int) (x167001 : Int) : IsLim (fun k => spec_l03Compose.j0 k x1 x2 x17 x167000 x167001) (spec_l03Compose.j0d x1 x2 x17 x167000 x167001) := lim_spec (fun k => (spec_l03Compose.mono_l k).1 x1 x2 x17 x167000 x167001)
noncomputable def spec_l03Compose.l0d (x1 : List Int) (x2 : List Int) (x7 : List Int) (x8 : Int) (x167000 : Int) (x167001 : Int) : Option (List Int) := lim (fun k => spec_l03Compose.l0 k x1 x2 x7 x8 x167000 x167001)
theorem spec_l03Compose.l0lim (x1 : List Int) (x2 : List Int) (x7 : List Int) (x8 : Int) (x167000 : Int) (x167001 : Int) : IsLim (fun k => spec_l03Compose.l0 k x1 x2 x7 x8 x167000 x167001) (spec_l03Compose.l0d x1 x2 x7 x8 x167000 x167001) := lim_spec (fun k => (spec_l03Compose.mono_l k).2.1 x1 x2 x7 x8 x167000 x167001)
noncomputable def spec_l03Compose.l1d (x1 : List Int) (x2 : List Int) (x7 : List Int) (x8 : Int) (x9 : Int) (x167000 : Int) (x167001 : Int) : Option (List Int) := lim (fun k => spec_l03Compose.l1 k x1 x2 x7 x8 x9 x167000 x167001)
theorem spec_l03Compose.l1lim (x1 : List Int) (x2 : List Int) (x7 : List Int) (x8 : Int) (x9 : Int) (x167000 : Int) (x167001 : Int) : IsLim (fun k => spec_l03Compose.l1 k x1 x2 x7 x8 x9 x167000 x167001) (spec_l03Compose.l1d x1 x2 x7 x8 x9 x167000 x167001) := lim_spec (fun k => (spec_l03Compose.mono_l k).2.2 x1 x2 x7 x8 x9 x167000 x167001)
theorem spec_l03Compose.j0d_eq (x1 : List Int) (x2 : List Int) (x17 : Bool) (x167000 : Int) (x167001 : Int) : spec_l03Compose.j0d x1 x2 x17 x167000 x167001 = if x17 = true then (some (([] : List Int))) else (if 0 ≤ (wrap64 ((wrap64 ((x1.length : Int) + (x2.length : Int))) - 1)) then (if (wrap64 ((wrap64 ((x1.length : Int) + (x2.length : Int))) - 1) : Int).toNat ≤ 35184372088832 then (spec_l03Compose.l0d x1 x2 (List.replicate (wrap64 ((wrap64 ((x1.length : Int) + (x2.length : Int))) - 1) : Int).toNat 0) 0 x167000 x167001) else (none)) else (none)) := by
  refine IsLim.unique (spec_l03Compose.j0lim _ _ _ _ _) ?_
  refine IsLim.shift (by rfl) ?_
  simp only [spec_l03Compose.j0]
  repeat' (first | exact IsLim.const _ | refine IsLim.ite ?_ ?_ | refine IsLim.bind ?_ (fun _ => ?_) | exact spec_l03Compose.l0lim ..)
theorem spec_l03Compose.l0d_eq (x1 : List Int) (x2 : List Int) (x7 : List Int) (x8 : Int) (x167000 : Int) (x167001 : Int) : spec_l03Compose.l0d x1 x2 x7 x8 x167000 x167001 = if x8 < (x1.length : Int) then (spec_l03Compose.l1d x1 x2 x7 x8 0 x167000 x167001) else ((spec_l03Trim.d x7).bind fun t173 => (some t173)) := by
  refine IsLim.unique (spec_l03Compose.l0lim _ _ _ _ _ _) ?_
  refine IsLim.shift (by rfl) ?_
  simp only [spec_l03Compose.l0]
  repeat' (first | exact IsLim.const _ | refine IsLim.ite ?_ ?_ | refine IsLim.bind ?_ (fun _ => ?_) | exact spec_l03Trim.lim .. | exact spec_l03Compose.l1lim ..)
theorem spec_l03Compose.l1d_eq (x1 : List Int) (x2 : List Int) (x7 : List Int) (x8 : Int) (x9 : Int) (x167000 : Int) (x167001 : Int) : spec_l03Compose.l1d x1 x2 x7 x8 x9 x167000 x167001 = if x9 < (x2.length : Int) then (if 0 ≤ (wrap64 (x8 + x9)) then (if (wrap64 (x8 + x9)) < (x7.length : Int) then (if 0 ≤ x8 then (if x8 < (x1.length : Int) then (if 0 ≤ x9 then ((spec_l01Square.d x167000 x167001 (rd x2 x9) x8).bind fun t179 => ((spec_l01Mul.d x167000 x167001 (rd x1 x8) t179).bind fun t180 => (spec_l03Compose.l1d x1 x2 (x7.set ((wrap64 (x8 + x9)) : Int).toNat (Go.bits .xor .i64 (rd x7 (wrap64 (x8 + x9))) t180)) x8 (wrap64 (x9 + 1)) x167000 x167001))) else (none)) else (none)) else (none)) else (none)) else (none)) else (spec_l03Compose.l0d x1 x2 x7 (wrap64 (x8 + 1)) x167000 x167001) := by
  refine IsLim.unique (spec_l03Compose.l1lim _ _ _ _ _ _ _) ?_
  refine IsLim.shift (by rfl) ?_
  simp only [spec_l03Compose.l1]
  repeat' (first | exact IsLim.const _ | refine IsLim.ite ?_ ?_ | refine IsLim.bind ?_ (fun _ => ?_) | exact spec_l01Square.lim .. | exact spec_l01Mul.lim .. | exact spec_l03Compose.l1lim .. | exact spec_l03Compose.l0lim ..)
noncomputable def spec_l03Compose.d (a0_0 : Int) (a0_1 : Int) (l1 : List Int) (l2 : List Int) : Option (List Int) := lim (fun k => spec_l03Compose.f k a0_0 a0_1 l1 l2)
theorem spec_l03Compose.lim (a0_0 : Int) (a0_1 : Int) (l1 : List Int) (l2 : List Int) : IsLim (fun k => spec_l03Compose.f k a0_0 a0_1 l1 l2) (spec_l03Compose.d a0_0 a0_1 l1 l2) := lim_spec (fun k => spec_l03Compose.mono a0_0 a0_1 l1 l2 k)
theorem spec_l03Compose.d_eq (a0_0 : Int) (a0_1 : Int) (l1 : List Int) (l2 : List Int) : spec_l03Compose.d a0_0 a0_1 l1 l2 = if (l1.length : Int) = 0 then (spec_l03Compose.j0d l1 l2 true a0_0 a0_1) else (spec_l03Compose.j0d l1 l2 ((l2.length : Int) == 0) a0_0 a0_1) := by
  refine IsLim.unique (spec_l03Compose.lim _ _ _ _) ?_
  unfold spec_l03Compose.f
  repeat' (first | exact IsLim.const _ | refine IsLim.ite ?_ ?_ | refine IsLim.bind ?_ (fun _ => ?_) | exact spec_l03Compose.j0lim ..)
theorem s_sq_loop {M P : Nat} (h : validB (M : Int) (P : Int) = true) : ∀ (k : Nat) {x : Nat}, k ≤ 1000 → x < 2 ^ M → spec_l01Square.l0d (x : Int) (k : Int) (M : Int) (P : Int) = some ((fsq M P k x : Nat) : Int)
  | 0, x, _, hx => by rw [spec_l01Square.l0d_eq, if_neg (by omega)]; rfl
  | k + 1, x, hk, hx => by
    rw [spec_l01Square.l0d_eq, if_pos (by omega), s_mul_v h hx hx, bind_some', show wrap64 (((k + 1 : Nat) : Int) - 1) = (k : Int) by rw [wr (by omega) (by omega)]; omega]
    exact s_sq_loop h k (by omega) (fmul_lt h hx x)
theorem s_sq_v {M P : Nat} (h : validB (M : Int) (P : Int) = true) (k : Nat) {x : Nat} (hx : x < 2 ^ M) : spec_l01Square.d (M : Int) (P : Int) (x : Int) (k : Int) = some ((fsq M P (k % M) x : Nat) : Int) := by
  have hv := valid_bits h
  have := Nat.mod_lt k (show M > 0 by omega)
  rw [spec_l01Square.d_eq, if_neg (by omega), tmod_nat]
  exact s_sq_loop h (k % M) (by omega) hx
theorem lst_set {l : List Nat} {k v : Nat} (hk : k < l.length) : lst (l.set k v) = if k = l.length - 1 then v else lst l := by
  unfold lst
  rw [List.length_set]
  by_cases c : k = l.length - 1
  · rw [if_pos c, ← c]; simp [List.getD, hk]
  · rw [if_neg c]; simp [List.getD, c]
/-- what stands last while a product is made -/
structure Top (c : Prop) (on : List Nat) (V : Nat) : Prop where
  hit : c → lst on = V
  miss : ¬ c → lst on = 0
theorem top_step {M P : Nat} {pn qn on : List Nat} {i j V : Nat} (hi : i < pn.length) (hj : j < qn.length) (hij : i + j < on.length) (hL : on.length = pn.length + qn.length - 1)
    (hV : V = fmul M P (lst pn) (fsq M P ((pn.length - 1) % M) (lst qn))) (h0 : lst on = 0) :
    Top (i + 1 = pn.length ∧ j + 1 = qn.length) (on.set (i + j) (on[i + j] ^^^ fmul M P pn[i] (fsq M P (i % M) qn[j]))) V := by
  have n1 : 0 < on.length := Nat.lt_of_le_of_lt (Nat.zero_le _) hij
  have n2 : 0 < pn.length := Nat.lt_of_le_of_lt (Nat.zero_le _) hi
  have n3 : 0 < qn.length := Nat.lt_of_le_of_lt (Nat.zero_le _) hj
  refine ⟨fun c => ?_, fun c => ?_⟩
  · obtain ⟨c1, c2⟩ := c
    have e1 : i = pn.length - 1 := Nat.eq_sub_of_add_eq c1
    have e2 : j = qn.length - 1 := Nat.eq_sub_of_add_eq c2
    have e3 : i + j = on.length - 1 := by clear hV h0; omega
    have q0 : on[i + j] = 0 := by rw [← h0, lst_get n1]; simp only [e3]
    have qp : pn[i] = lst pn := by rw [lst_get n2]; simp only [e1]
    have qq : qn[j] = lst qn := by rw [lst_get n3]; simp only [e2]
    rw [lst_set hij, if_pos e3, q0, Nat.zero_xor, qp, qq, hV, e1]
  · have e3 : ¬ (i + j = on.length - 1) := by clear hV h0; omega
    rw [lst_set hij, if_neg e3, h0]
theorem comp_top {M P : Nat} (h : validB (M : Int) (P : Int) = true) {pn qn : List Nat} (hl : pn.length ≤ 1048576) (hl' : qn.length ≤ 1048576) (hp : ∀ y ∈ pn, y < 2 ^ M) (hq : ∀ y ∈ qn, y < 2 ^ M) (np : 0 < pn.length) (nq : 0 < qn.length) :
    ∃ rn : List Nat, rn.length ≤ pn.length + qn.length - 1 ∧ (∀ y ∈ rn, y < 2 ^ M) ∧ impl_Field_compose.d (M : Int) (P : Int) (up pn) (up qn) = some (up rn) ∧ spec_l03Compose.d (M : Int) (P : Int) (up pn) (up qn) = some (up rn) ∧
      (fmul M P (lst pn) (fsq M P ((pn.length - 1) % M) (lst qn)) ≠ 0 → rn.length = pn.length + qn.length - 1 ∧ lst rn = fmul M P (lst pn) (fsq M P ((pn.length - 1) % M) (lst qn))) := by
  have hv := valid_bits h
  obtain ⟨V, hV⟩ : ∃ V, V = fmul M P (lst pn) (fsq M P ((pn.length - 1) % M) (lst qn)) := ⟨_, rfl⟩
  rw [← hV]
  rw [impl_Field_compose.d_eq, spec_l03Compose.d_eq]
  have c1 : ¬ ((up pn).length : Int) = 0 := by rw [up_length]; omega
  rw [if_neg c1, if_neg c1]
  have c2 : ¬ ((up qn).length : Int) = 0 := by rw [up_length]; omega
  have e : (((up qn).length : Int) == 0) = false := beq_eq_false_iff_ne.mpr c2
  have hw : wrap64 (wrap64 (((up pn).length : Int) + ((up qn).length : Int)) - 1) = ((pn.length + qn.length - 1 : Nat) : Int) := by
    rw [up_length, up_length, wr (x := (pn.length : Int) + (qn.length : Int)) (by omega) (by omega), wr (by omega) (by omega)]; omega
  rw [e, impl_Field_compose.j0d_eq, spec_l03Compose.j0d_eq, if_neg Bool.false_ne_true, if_neg Bool.false_ne_true, hw, Int.toNat_natCast]
  obtain ⟨L, hL⟩ : ∃ L, L = pn.length + qn.length - 1 := ⟨_, rfl⟩
  rw [← hL, if_pos (show (0 : Int) ≤ (L : Int) by omega), if_pos (show (0 : Int) ≤ (L : Int) by omega), if_pos (show L ≤ 35184372088832 by omega), if_pos (show L ≤ 35184372088832 by omega), up_zeros]
  have key : ∀ i, i ≤ pn.length → ∀ on : List Nat, on.length = L → (∀ y ∈ on, y < 2 ^ M) → Top (i = pn.length) on V → ∃ rn : List Nat, rn.length ≤ L ∧ (∀ y ∈ rn, y < 2 ^ M) ∧
      impl_Field_compose.l0d (up qn) (up on) (up pn) ((up pn).length : Int) (i : Int) (M : Int) (P : Int) = some (up rn) ∧ spec_l03Compose.l0d (up pn) (up qn) (up on) (i : Int) (M : Int) (P : Int) = some (up rn) ∧ (V ≠ 0 → rn.length = L ∧ lst rn = V) := by
    apply down
    · intro on h1 h2 h3
      replace h3 := h3.hit rfl
      obtain ⟨rn, r1, r2, r3, r4, r5, r6, r7⟩ := trim_top (by omega) h2
      exact ⟨rn, by omega, r2, by rw [impl_Field_compose.l0d_eq, if_neg (by rw [up_length]; omega), r3, bind_some'], by rw [spec_l03Compose.l0d_eq, if_neg (by rw [up_length]; omega), r4, bind_some'], fun z => by
        have := r6 (by omega) (by rw [h3]; exact z)
        rw [this]; exact ⟨h1, h3⟩⟩
    · intro i hi ih on h1 h2 h3
      replace h3 := h3.miss (Nat.ne_of_lt hi)
      have a1 := hp _ (List.getElem_mem hi)
      have row : ∀ j, j ≤ qn.length → ∀ on : List Nat, on.length = L → (∀ y ∈ on, y < 2 ^ M) → Top (i + 1 = pn.length ∧ j = qn.length) on V → ∃ rn : List Nat, rn.length ≤ L ∧ (∀ y ∈ rn, y < 2 ^ M) ∧
          impl_Field_compose.l1d (up qn) (up on) (i : Int) ((pn[i] : Nat) : Int) (up pn) ((up pn).length : Int) (i : Int) (up qn) ((up qn).length : Int) (j : Int) (M : Int) (P : Int) = some (up rn) ∧ spec_l03Compose.l1d (up pn) (up qn) (up on) (i : Int) (j : Int) (M : Int) (P : Int) = some (up rn) ∧ (V ≠ 0 → rn.length = L ∧ lst rn = V) := by
        apply down
        · intro on h1 h2 h3
          obtain ⟨rn, r1, r2, r3, r4, r5⟩ := ih on h1 h2 ⟨fun z => h3.hit ⟨z, rfl⟩, fun z => h3.miss (fun y => z y.1)⟩
          exact ⟨rn, r1, r2, by rw [impl_Field_compose.l1d_eq, if_neg (by rw [up_length]; omega), wrS hi (by omega), r3], by rw [spec_l03Compose.l1d_eq, if_neg (by rw [up_length]; omega), wrS hi (by omega), r4], r5⟩
        · intro j hj ihj on h1 h2 h3
          replace h3 := h3.miss (fun z => Nat.ne_of_lt hj z.2)
          have hij : i + j < on.length := by omega
          have w : wrap64 ((i : Int) + (j : Int)) = ((i + j : Nat) : Int) := by rw [wr (by omega) (by omega)]; omega
          have w2 : wrap64 ((j : Int) + 1) = ((j + 1 : Nat) : Int) := wrS hj (by omega)
          have m63 : M ≤ 63 := by omega
          have z1 : (j : Int) < ((up qn).length : Int) := by rw [up_length]; exact Int.ofNat_lt.mpr hj
          have z2 : (i : Int) < ((up pn).length : Int) := by rw [up_length]; exact Int.ofNat_lt.mpr hi
          have z3 : ((i + j : Nat) : Int) < ((up on).length : Int) := by rw [up_length]; exact Int.ofNat_lt.mpr hij
          have b1 := h2 _ (List.getElem_mem hij)
          have b2 := hq _ (List.getElem_mem hj)
          have b3 := fsq_lt h (i % M) b2
          have b4 := fmul_lt h a1 (fsq M P (i % M) qn[j])
          have top := top_step (M := M) (P := P) hi hj hij (h1.trans hL) hV h3
          obtain ⟨rn, r1, r2, r3, r4, r5⟩ := ihj (on.set (i + j) (on[i + j] ^^^ fmul M P pn[i] (fsq M P (i % M) qn[j]))) (by rw [List.length_set]; exact h1) (set_bound h2 (Nat.xor_lt_two_pow b1 b4)) top
          have x := bxor (small62 m63 b1) (small62 m63 b4)
          refine ⟨rn, r1, r2, ?_, ?_, r5⟩
          · rw [impl_Field_compose.l1d_eq, if_pos z1, if_pos (Int.natCast_nonneg j), if_pos z1, w, if_pos (Int.natCast_nonneg (i + j)), if_pos z3, up_get hj, i_sq_v h i b2, bind_some', i_mul_v h a1 b3, bind_some', up_get hij, x, Int.toNat_natCast, up_set, w2, r3]
          · rw [spec_l03Compose.l1d_eq, if_pos z1, w, if_pos (Int.natCast_nonneg (i + j)), if_pos z3, if_pos (Int.natCast_nonneg i), if_pos z2, if_pos (Int.natCast_nonneg j), up_get hj, s_sq_v h i b2, bind_some', up_get hi, s_mul_v h a1 b3, bind_some', up_get hij, x, Int.toNat_natCast, up_set, w2, r4]
      obtain ⟨rn, r1, r2, r3, r4, r5⟩ := row 0 (by omega) on h1 h2 ⟨fun z => absurd z.2 (Nat.ne_of_lt nq), fun _ => h3⟩
      refine ⟨rn, r1, r2, ?_, ?_, r5⟩
      · rw [impl_Field_compose.l0d_eq, if_pos (by rw [up_length]; omega), if_pos (by omega), if_pos (by rw [up_length]; omega), up_get hi]; exact r3
      · rw [spec_l03Compose.l0d_eq, if_pos (by rw [up_length]; omega)]; exact r4
  have z : lst (List.replicate L 0) = 0 := by
    unfold lst
    simp [List.getD, List.getElem?_replicate]
    split <;> simp
  exact key 0 (by omega) (List.replicate L 0) (by simp) (zeros_bound (Nat.two_pow_pos M)) ⟨fun y => absurd y (Nat.ne_of_lt np), fun _ => z⟩
theorem rd_lst {l : List Nat} (h : 0 < l.length) : rd (up l) ((l.length - 1 : Nat) : Int) = ((lst l : Nat) : Int) := by
  rw [up_get (show l.length - 1 < l.length by omega), lst_get h]
theorem lst_lt {l : List Nat} {B : Nat} (h : 0 < l.length) (hb : ∀ y ∈ l, y < B) : lst l < B := by
  rw [lst_get h]; exact hb _ (List.getElem_mem _)
theorem k13 {k : Nat} (h : k ≤ 1000) : k + 1 ≤ 35184372088832 := Nat.le_trans (Nat.succ_le_succ h) (Nat.le_of_ble_eq_true rfl)
/-- c times the k-th power -/
def term (c k : Nat) : List Nat := (List.replicate (k + 1) 0).set k c
theorem term_len (c k : Nat) : (term c k).length = k + 1 := by simp [term]
theorem term_lst (c k : Nat) : lst (term c k) = c := by
  unfold term
  rw [lst_set (by simp), if_pos (by simp)]
theorem term_lt {c k B : Nat} (hc : c < B) : ∀ y ∈ term c k, y < B := set_bound (zeros_bound (Nat.lt_of_le_of_lt (Nat.zero_le _) hc)) hc
theorem i_term (c k : Nat) : (List.replicate (k + 1) (0 : Int)).set k (c : Int) = up (term c k) := by
  rw [up_zeros, up_set]; rfl
/-- one round: what is taken off has the same last number -/
theorem cut_v {M P : Nat} (h : validB (M : Int) (P : Int) = true) {rn pn qn : List Nat} (lr : rn.length ≤ 12) (hp : pn.length ≤ 12) (hq : qn.length ≤ 12) (br : ∀ y ∈ rn, y < 2 ^ M) (bp : ∀ y ∈ pn, y < 2 ^ M) (bq : ∀ y ∈ qn, y < 2 ^ M)
    (np : 0 < pn.length) (nq : 0 < qn.length) (hl : pn.length + qn.length = rn.length + 1) (nr : lst rn ≠ 0) (he : fmul M P (lst pn) (fsq M P ((pn.length - 1) % M) (lst qn)) = lst rn) :
    ∃ cn zn : List Nat, impl_Field_compose.d (M : Int) (P : Int) (up pn) (up qn) = some (up cn) ∧ spec_l03Compose.d (M : Int) (P : Int) (up pn) (up qn) = some (up cn) ∧ impl_plus.d (up rn) (up cn) = some (up zn) ∧ spec_l03Sum.d (up rn) (up cn) = some (up zn) ∧
      zn.length < rn.length ∧ (∀ y ∈ zn, y < 2 ^ M) ∧ (0 < zn.length → lst zn ≠ 0) := by
  have hv := valid_bits h
  obtain ⟨cn, c1, c2, c3, c4, c5⟩ := comp_top h (pn := pn) (qn := qn) (by omega) (by omega) bp bq np nq
  rw [he] at c5
  obtain ⟨c6, c7⟩ := c5 nr
  obtain ⟨zn, z1, z2, z3, z4, z5, z6⟩ := plus_both (M := M) (by omega) (xn := rn) (yn := cn) (by omega) (by omega) br c2
  exact ⟨cn, zn, c3, c4, z3, z4, z6 (by omega) (by omega) c7.symm, z2, z5⟩
/-- the number at a place, 0 behind the end -/
def cf (l : List Nat) (k : Nat) : Nat := l.getD k 0
theorem cf_get {l : List Nat} {k : Nat} (h : k < l.length) : cf l k = l[k] := by simp [cf, List.getD, h]
theorem cf_out {l : List Nat} {k : Nat} (h : l.length ≤ k) : cf l k = 0 := by simp [cf, List.getD, List.getElem?_eq_none h]
theorem cf_lt {l : List Nat} {B : Nat} (hB : 0 < B) (hb : ∀ y ∈ l, y < B) (k : Nat) : cf l k < B := by
  by_cases h : k < l.length
  · rw [cf_get h]; exact hb _ (List.getElem_mem h)
  · rw [cf_out (by omega)]; exact hB
theorem cf_lst (l : List Nat) : cf l (l.length - 1) = lst l := rfl
theorem cf_set {l : List Nat} {i v : Nat} (h : i < l.length) (k : Nat) : cf (l.set i v) k = if k = i then v else cf l k := by
  by_cases c : k = i
  · subst c
    rw [if_pos rfl, cf_get (by rw [List.length_set]; exact h), List.getElem_set_self]
  · rw [if_neg c]
    by_cases d : k < l.length
    · rw [cf_get (by rw [List.length_set]; exact d), cf_get d, List.getElem_set_ne (by omega)]
    · rw [cf_out (by rw [List.length_set]; omega), cf_out (by omega)]
theorem cf_zeros (n k : Nat) : cf (List.replicate n 0) k = 0 := by
  by_cases d : k < n
  · rw [cf_get (by simp; exact d), List.getElem_replicate]
  · rw [cf_out (by simp; omega)]
theorem cf_pad (l : List Nat) (n k : Nat) : cf (l ++ List.replicate n 0) k = cf l k := by
  by_cases d : k < l.length
  · rw [cf_get (by simp; omega), cf_get d, List.getElem_append_left d]
  · rw [cf_out (l := l) (by omega)]
    by_cases e : k < (l ++ List.replicate n 0).length
    · rw [cf_get e, List.getElem_append_right (by omega), List.getElem_replicate]
    · rw [cf_out (by omega)]
theorem trim_cf {ln : List Nat} (hl : ln.length ≤ 1073741824) : ∃ rn : List Nat, impl_trim.d (up ln) = some (up rn) ∧ (∀ k, cf rn k = cf ln k) ∧ (0 < rn.length → lst rn ≠ 0) := by
  induction hn : ln.length generalizing ln with
  | zero =>
    refine ⟨ln, ?_, fun _ => rfl, fun z => by omega⟩
    rw [impl_trim.d_eq, impl_trim.l0d_eq, if_neg (by rw [up_length]; omega)]
  | succ n ih =>
    have hlen : (up ln).length = n + 1 := by rw [up_length, hn]
    have hw : wrap64 (((up ln).length : Int) - 1) = (n : Int) := by rw [hlen, wr (by omega) (by omega)]; omega
    have hr : rd (up ln) (n : Int) = ((lst ln : Nat) : Int) := by
      rw [up_get (show n < ln.length by omega), lst_get (by omega)]
      simp only [hn, Nat.add_sub_cancel]
    by_cases c : lst ln = 0
    · have tl : (ln.take n).length = n := by rw [List.length_take]; omega
      obtain ⟨rn, r1, r2, r9⟩ := ih (ln := ln.take n) (by omega) tl
      refine ⟨rn, ?_, fun k => ?_, r9⟩
      · rw [impl_trim.d_eq, impl_trim.l0d_eq, if_pos (by omega), hw, if_pos (by omega), if_pos (by omega), hr, if_pos (by rw [c]; rfl), if_pos (by omega), Int.toNat_natCast, up_take, ← impl_trim.d_eq, r1]
      · rw [r2]
        by_cases d : k < n
        · rw [cf_get (by omega), cf_get (show k < ln.length by omega), List.getElem_take]
        · rw [cf_out (by omega)]
          by_cases e : k = n
          · have e2 : k = ln.length - 1 := by omega
            rw [e2, cf_lst, c]
          · rw [cf_out (by omega)]
    · have c' : ¬ ((lst ln : Nat) : Int) = 0 := fun z => c (by omega)
      refine ⟨ln, ?_, fun _ => rfl, fun _ => c⟩
      rw [impl_trim.d_eq, impl_trim.l0d_eq, if_pos (by omega), hw, if_pos (by omega), if_pos (by omega), hr, if_neg c']
theorem plus_cf {M : Nat} (hM : M ≤ 60) {xn yn : List Nat} (hx : xn.length ≤ 1000000) (hy : yn.length ≤ 1000000) (bx : ∀ y ∈ xn, y < 2 ^ M) (by_ : ∀ y ∈ yn, y < 2 ^ M) :
    ∃ zn : List Nat, impl_plus.d (up xn) (up yn) = some (up zn) ∧ (∀ k, cf zn k = cf xn k ^^^ cf yn k) ∧ (0 < zn.length → lst zn ≠ 0) := by
  obtain ⟨N, hN⟩ : ∃ N, N = xn.length + (yn.length - xn.length) := ⟨_, rfl⟩
  have key : ∀ i, i ≤ yn.length → ∀ on : List Nat, on.length = N → (∀ y ∈ on, y < 2 ^ M) → (∀ k, cf on k = cf xn k ^^^ (if k < i then cf yn k else 0)) →
      ∃ zn : List Nat, impl_plus.l0d (up on) (up yn) ((up yn).length : Int) (i : Int) = some (up zn) ∧ (∀ k, cf zn k = cf xn k ^^^ cf yn k) ∧ (0 < zn.length → lst zn ≠ 0) := by
    apply down
    · intro on h1 h2 h3
      obtain ⟨rn, r3, r5, r9⟩ := trim_cf (ln := on) (by omega)
      refine ⟨rn, by rw [impl_plus.l0d_eq, if_neg (by rw [up_length]; omega), r3, bind_some'], fun k => ?_, r9⟩
      rw [r5, h3]
      by_cases c : k < yn.length
      · rw [if_pos c]
      · rw [if_neg c, cf_out (l := yn) (by omega)]
    · intro i hi ih on h1 h2 h3
      have hio : i < on.length := by omega
      have m63 : M ≤ 63 := by omega
      have z1 : (i : Int) < ((up yn).length : Int) := by rw [up_length]; exact Int.ofNat_lt.mpr hi
      have z2 : (i : Int) < ((up on).length : Int) := by rw [up_length]; exact Int.ofNat_lt.mpr hio
      have b1 := h2 _ (List.getElem_mem hio)
      have b2 := by_ _ (List.getElem_mem hi)
      have x := bxor (small62 m63 b1) (small62 m63 b2)
      obtain ⟨rn, r3, r5⟩ := ih (on.set i (on[i] ^^^ yn[i])) (by rw [List.length_set]; exact h1) (set_bound h2 (Nat.xor_lt_two_pow b1 b2)) (fun k => by
        rw [cf_set hio]
        by_cases c : k = i
        · subst c
          have := h3 k
          rw [if_neg (Nat.lt_irrefl k), Nat.xor_zero] at this
          rw [if_pos rfl, if_pos (Nat.lt_succ_self k), ← cf_get hio, ← cf_get hi, this]
        · rw [if_neg c, h3]
          by_cases d : k < i
          · rw [if_pos d, if_pos (by omega)]
          · rw [if_neg d, if_neg (by omega)])
      refine ⟨rn, ?_, r5⟩
      rw [impl_plus.l0d_eq, if_pos z1, if_pos (Int.natCast_nonneg i), if_pos z1, if_pos z2, up_get hio, up_get hi, x, Int.toNat_natCast, up_set, wrS hi (by omega), r3]
  have bz : ∀ y ∈ xn ++ List.replicate (yn.length - xn.length) 0, y < 2 ^ M := fun y hy => by
    rcases List.mem_append.mp hy with z | z
    · exact bx y z
    · exact zeros_bound (Nat.two_pow_pos M) y z
  obtain ⟨zn, r1, r2, r9⟩ := key 0 (by omega) (xn ++ List.replicate (yn.length - xn.length) 0) (by simp; omega) bz (fun k => by rw [cf_pad, if_neg (by omega), Nat.xor_zero])
  refine ⟨zn, ?_, r2, r9⟩
  have mxe : mx ((up xn).length : Int) ((up yn).length : Int) = (N : Int) := by
    unfold mx
    rw [up_length, up_length]
    split <;> omega
  have e : up xn ++ (List.replicate N (0 : Int)).drop (up xn).length = up (xn ++ List.replicate (yn.length - xn.length) 0) := by
    rw [up_append, up_length, List.drop_replicate, up_zeros, show N - xn.length = yn.length - xn.length by omega]
  rw [impl_plus.d_eq, mxe, if_pos (by omega), if_pos (by omega), bind_some', Int.toNat_natCast, if_pos (by rw [up_length, List.length_replicate]; omega), e]
  exact r1
theorem fsq_z {M P : Nat} (h : validB (M : Int) (P : Int) = true) (k : Nat) : fsq M P k 0 = 0 := by
  have := fsq_xor h k (x := 0) (y := 0) (Nat.two_pow_pos M) (Nat.two_pow_pos M)
  rwa [Nat.xor_self, Nat.xor_self] at this
/-- one term of a composition at a place -/
def tm (M P : Nat) (p q : List Nat) (i k : Nat) : Nat := if i ≤ k then fmul M P (cf p i) (fsq M P (i % M) (cf q (k - i))) else 0
/-- n terms from the i-th on -/
def rs (M P : Nat) (p q : List Nat) (k : Nat) : Nat → Nat → Nat
  | 0, _ => 0
  | n + 1, i => tm M P p q i k ^^^ rs M P p q k n (i + 1)
theorem tm_out {M P : Nat} (h : validB (M : Int) (P : Int) = true) {p q : List Nat} {i k : Nat} (hp : ∀ y ∈ p, y < 2 ^ M) (hk : i + q.length ≤ k) : tm M P p q i k = 0 := by
  unfold tm
  rw [if_pos (by omega), cf_out (l := q) (by omega), fsq_z h, fmul_0r]
theorem xor4c (a b c d : Nat) : (a ^^^ b) ^^^ (c ^^^ d) = (a ^^^ c) ^^^ (b ^^^ d) := by
  rw [Nat.xor_assoc, ← Nat.xor_assoc b c d, Nat.xor_comm b c, Nat.xor_assoc c b d, ← Nat.xor_assoc]
theorem comp_cf {M P : Nat} (h : validB (M : Int) (P : Int) = true) {pn qn : List Nat} (hl : pn.length ≤ 1048576) (hl' : qn.length ≤ 1048576) (hp : ∀ y ∈ pn, y < 2 ^ M) (hq : ∀ y ∈ qn, y < 2 ^ M) :
    ∃ rn : List Nat, impl_Field_compose.d (M : Int) (P : Int) (up pn) (up qn) = some (up rn) ∧ (∀ k, cf rn k = rs M P pn qn k pn.length 0) ∧ (0 < rn.length → lst rn ≠ 0) := by
  have hv := valid_bits h
  rw [impl_Field_compose.d_eq]
  by_cases c1 : ((up pn).length : Int) = 0
  · rw [if_pos c1]
    rw [up_length] at c1
    refine ⟨[], by rw [impl_Field_compose.j0d_eq, if_pos rfl]; rfl, fun k => ?_, fun z => absurd z (by simp)⟩
    rw [show pn.length = 0 by omega]; rfl
  · rw [if_neg c1]
    by_cases c2 : (up qn).length = 0
    · have e : (((up qn).length : Int) == 0) = true := by rw [c2]; rfl
      rw [e]
      rw [up_length] at c2
      refine ⟨[], by rw [impl_Field_compose.j0d_eq, if_pos rfl]; rfl, fun k => ?_, fun z => absurd z (by simp)⟩
      have z : ∀ n i, rs M P pn qn k n i = 0 := by
        intro n
        induction n with
        | zero => intro i; rfl
        | succ n ih =>
          intro i
          show tm M P pn qn i k ^^^ rs M P pn qn k n (i + 1) = 0
          rw [ih, Nat.xor_zero]
          by_cases d : i ≤ k
          · exact tm_out h hp (by omega)
          · unfold tm; rw [if_neg d]
      rw [z]; rfl
    · have e : (((up qn).length : Int) == 0) = false := beq_eq_false_iff_ne.mpr (by omega)
      rw [up_length] at c1 c2
      have hw : wrap64 (wrap64 (((up pn).length : Int) + ((up qn).length : Int)) - 1) = ((pn.length + qn.length - 1 : Nat) : Int) := by
        rw [up_length, up_length, wr (x := (pn.length : Int) + (qn.length : Int)) (by omega) (by omega), wr (by omega) (by omega)]; omega
      rw [e, impl_Field_compose.j0d_eq, if_neg Bool.false_ne_true, hw, Int.toNat_natCast]
      clear hw
      obtain ⟨L, hL⟩ : ∃ L, L = pn.length + qn.length - 1 := ⟨_, rfl⟩
      rw [← hL, if_pos (show (0 : Int) ≤ (L : Int) by omega), if_pos (show L ≤ 35184372088832 by omega), up_zeros]
      have key : ∀ i, i ≤ pn.length → ∀ on : List Nat, on.length = L → (∀ y ∈ on, y < 2 ^ M) → ∃ rn : List Nat,
          impl_Field_compose.l0d (up qn) (up on) (up pn) ((up pn).length : Int) (i : Int) (M : Int) (P : Int) = some (up rn) ∧ (∀ k, cf rn k = cf on k ^^^ rs M P pn qn k (pn.length - i) i) ∧ (0 < rn.length → lst rn ≠ 0) := by
        apply down
        · intro on h1 h2
          obtain ⟨rn, r3, r4, r5⟩ := trim_cf (ln := on) (by omega)
          exact ⟨rn, by rw [impl_Field_compose.l0d_eq, if_neg (by rw [up_length]; omega), r3, bind_some'], fun k => by rw [r4, Nat.sub_self]; exact (Nat.xor_zero _).symm, r5⟩
        · intro i hi ih on h1 h2
          have a1 := hp _ (List.getElem_mem hi)
          have row : ∀ j, j ≤ qn.length → ∀ on : List Nat, on.length = L → (∀ y ∈ on, y < 2 ^ M) → ∃ rn : List Nat,
              impl_Field_compose.l1d (up qn) (up on) (i : Int) ((pn[i] : Nat) : Int) (up pn) ((up pn).length : Int) (i : Int) (up qn) ((up qn).length : Int) (j : Int) (M : Int) (P : Int) = some (up rn) ∧ (∀ k, cf rn k = cf on k ^^^ ((if i + j ≤ k then tm M P pn qn i k else 0) ^^^ rs M P pn qn k (pn.length - (i + 1)) (i + 1))) ∧ (0 < rn.length → lst rn ≠ 0) := by
            apply down
            · intro on h1 h2
              obtain ⟨rn, r3, r4, r5⟩ := ih on h1 h2
              refine ⟨rn, by rw [impl_Field_compose.l1d_eq, if_neg (by rw [up_length]; omega), wrS hi (by omega), r3], fun k => ?_, r5⟩
              rw [r4]
              have : (if i + qn.length ≤ k then tm M P pn qn i k else 0) = 0 := by
                by_cases d : i + qn.length ≤ k
                · rw [if_pos d]; exact tm_out h hp d
                · rw [if_neg d]
              rw [this, Nat.zero_xor]
            · intro j hj ihj on h1 h2
              have hij : i + j < on.length := by omega
              have w : wrap64 ((i : Int) + (j : Int)) = ((i + j : Nat) : Int) := by rw [wr (by omega) (by omega)]; omega
              have m63 : M ≤ 63 := by clear w; omega
              have z1 : (j : Int) < ((up qn).length : Int) := by rw [up_length]; exact Int.ofNat_lt.mpr hj
              have z3 : ((i + j : Nat) : Int) < ((up on).length : Int) := by rw [up_length]; exact Int.ofNat_lt.mpr hij
              have b1 := h2 _ (List.getElem_mem hij)
              have b2 := hq _ (List.getElem_mem hj)
              have b3 := fsq_lt h (i % M) b2
              have b4 := fmul_lt h a1 (fsq M P (i % M) qn[j])
              have te : fmul M P pn[i] (fsq M P (i % M) qn[j]) = tm M P pn qn i (i + j) := by
                unfold tm
                rw [if_pos (Nat.le_add_right i j), Nat.add_sub_cancel_left, cf_get hi, cf_get hj]
              obtain ⟨rn, r3, r4, r5⟩ := ihj (on.set (i + j) (on[i + j] ^^^ fmul M P pn[i] (fsq M P (i % M) qn[j]))) (by rw [List.length_set]; exact h1) (set_bound h2 (Nat.xor_lt_two_pow b1 b4))
              have x := bxor (small62 m63 b1) (small62 m63 b4)
              have w2 : wrap64 ((j : Int) + 1) = ((j + 1 : Nat) : Int) := wrS hj (Nat.le_trans hl' (by decide))
              refine ⟨rn, ?_, fun k => ?_, r5⟩
              · rw [impl_Field_compose.l1d_eq, if_pos z1, if_pos (Int.natCast_nonneg j), if_pos z1, w, if_pos (Int.natCast_nonneg (i + j)), if_pos z3, up_get hj, i_sq_v h i b2, bind_some', i_mul_v h a1 b3, bind_some', up_get hij, x, Int.toNat_natCast, up_set, w2, r3]
              · clear w w2
                rw [r4, cf_set hij]
                by_cases d : k = i + j
                · subst d
                  rw [if_pos rfl, if_neg (by omega), if_pos (Nat.le_refl _), Nat.zero_xor, te, ← cf_get hij, Nat.xor_assoc]
                · rw [if_neg d]
                  by_cases e : i + j ≤ k
                  · rw [if_pos e, if_pos (by omega)]
                  · rw [if_neg e, if_neg (by omega)]
          obtain ⟨rn, r3, r4, r5⟩ := row 0 (by omega) on h1 h2
          refine ⟨rn, ?_, fun k => ?_, r5⟩
          · rw [impl_Field_compose.l0d_eq, if_pos (by rw [up_length]; omega), if_pos (by omega), if_pos (by rw [up_length]; omega), up_get hi]; exact r3
          · rw [r4, show pn.length - i = (pn.length - (i + 1)) + 1 by omega]
            congr 1
            show (if i + 0 ≤ k then tm M P pn qn i k else 0) ^^^ _ = tm M P pn qn i k ^^^ _
            congr 1
            by_cases d : i ≤ k
            · rw [if_pos (by omega)]
            · rw [if_neg (by omega)]; unfold tm; rw [if_neg d]
      obtain ⟨rn, r3, r4, r5⟩ := key 0 (by omega) (List.replicate L 0) (by simp) (zeros_bound (Nat.two_pow_pos M))
      exact ⟨rn, r3, fun k => by rw [r4, cf_zeros, Nat.zero_xor, Nat.sub_zero], r5⟩
/-- what a composition has at a place -/
def CM (M P : Nat) (p q : List Nat) (k : Nat) : Nat := rs M P p q k 24 0
theorem rs_0 {M P : Nat} {p q : List Nat} {k : Nat} : ∀ n i, p.length ≤ i → rs M P p q k n i = 0
  | 0, _, _ => rfl
  | n + 1, i, hi => by
    show tm M P p q i k ^^^ rs M P p q k n (i + 1) = 0
    rw [rs_0 n (i + 1) (by omega), Nat.xor_zero]
    unfold tm
    by_cases d : i ≤ k
    · rw [if_pos d, cf_out hi, fmul_0l]
    · rw [if_neg d]
theorem rs_long {M P : Nat} {p q : List Nat} {k : Nat} (d : Nat) : ∀ n i, p.length ≤ i + n → rs M P p q k (n + d) i = rs M P p q k n i
  | 0, i, hi => by rw [Nat.zero_add, rs_0 d i (by omega)]; rfl
  | n + 1, i, hi => by
    rw [show n + 1 + d = (n + d) + 1 by omega]
    show tm M P p q i k ^^^ rs M P p q k (n + d) (i + 1) = tm M P p q i k ^^^ rs M P p q k n (i + 1)
    rw [rs_long d n (i + 1) (by omega)]
theorem rs_CM {M P : Nat} {p q : List Nat} (hp : p.length ≤ 24) (k : Nat) : rs M P p q k p.length 0 = CM M P p q k := by
  unfold CM
  have := rs_long (M := M) (P := P) (p := p) (q := q) (k := k) (24 - p.length) p.length 0 (by omega)
  rw [show p.length + (24 - p.length) = 24 by omega] at this
  exact this.symm
theorem CM_nil {M P : Nat} (q : List Nat) (k : Nat) : CM M P [] q k = 0 := rs_0 24 0 (by simp)
theorem rs_add1 {M P : Nat} {a b s q : List Nat} {k : Nat} (hs : ∀ i, cf s i = cf a i ^^^ cf b i) : ∀ n i, rs M P s q k n i = rs M P a q k n i ^^^ rs M P b q k n i
  | 0, _ => (Nat.xor_self 0).symm
  | n + 1, i => by
    show tm M P s q i k ^^^ rs M P s q k n (i + 1) = (tm M P a q i k ^^^ rs M P a q k n (i + 1)) ^^^ (tm M P b q i k ^^^ rs M P b q k n (i + 1))
    rw [rs_add1 hs n (i + 1), xor4c (tm M P a q i k)]
    congr 1
    unfold tm
    by_cases d : i ≤ k
    · rw [if_pos d, if_pos d, if_pos d, hs, fmul_xor_l]
    · rw [if_neg d, if_neg d, if_neg d]; rfl
theorem i_linearCode2_v (m p : Int) {l k : List Int} (hl : l.length ≤ 1048576) (hk : k.length ≤ 1048576) : impl_Field_linearCode.d m p [l, k] = some (if (validB m p && (linB m l && linB m k)) = true then 0 else 1) := by
  rw [impl_Field_linearCode.d_eq, i_ValidField_v, bind_some']
  by_cases h : validB m p = true
  · rw [if_pos h, slices_ContainsFunc_int64_int64_AT_impl_Field_linearCode_1.d_eq, slices_IndexFunc_int64_int64_AT_impl_Field_linearCode_1.d_eq]
    have q1 : ∀ x, x = l → impl_Field_linearCode_1.d x m p = some (!(linB m l)) := fun x e => by rw [e, impl_Field_linearCode_1.d_eq, i_isLinear_v h p hl, bind_some']
    have q2 : ∀ x, x = k → impl_Field_linearCode_1.d x m p = some (!(linB m k)) := fun x e => by rw [e, impl_Field_linearCode_1.d_eq, i_isLinear_v h p hk, bind_some']
    have w1 : wrap64 ((0 : Int) + 1) = 1 := by rw [wr (by omega) (by omega)]; rfl
    have w2 : wrap64 ((1 : Int) + 1) = 2 := by rw [wr (by omega) (by omega)]; rfl
    rw [slices_IndexFunc_int64_int64_AT_impl_Field_linearCode_1.l0d_eq, if_pos (by simp), if_pos (by omega), if_pos (by simp), q1 _ (by rfl), bind_some', w1]
    by_cases c : linB m l = true
    · rw [if_neg (by simp [c]), slices_IndexFunc_int64_int64_AT_impl_Field_linearCode_1.l0d_eq, if_pos (by simp), if_pos (by omega), if_pos (by simp), q2 _ (by rfl), bind_some', w2]
      by_cases d : linB m k = true
      · rw [if_neg (by simp [d]), slices_IndexFunc_int64_int64_AT_impl_Field_linearCode_1.l0d_eq, if_neg (by simp), bind_some', bind_some', if_neg (by decide), h, c, d]; rfl
      · rw [if_pos (by simp [d]), bind_some', bind_some', if_pos (by decide), Bool.eq_false_iff.mpr d]; simp
    · rw [if_pos (by simp [c]), bind_some', bind_some', if_pos (by decide), Bool.eq_false_iff.mpr c]; simp
  · rw [if_neg h, Bool.eq_false_iff.mpr h]; rfl
theorem comp_both {M P : Nat} (h : validB (M : Int) (P : Int) = true) {pn qn : List Nat} (hl : pn.length ≤ 1048576) (hl' : qn.length ≤ 1048576) (hp : ∀ y ∈ pn, y < 2 ^ M) (hq : ∀ y ∈ qn, y < 2 ^ M) :
    ∃ rn : List Nat, rn.length ≤ pn.length + qn.length - 1 ∧ (∀ y ∈ rn, y < 2 ^ M) ∧ impl_Field_compose.d (M : Int) (P : Int) (up pn) (up qn) = some (up rn) ∧ spec_l03Compose.d (M : Int) (P : Int) (up pn) (up qn) = some (up rn) := by
  have hv := valid_bits h
  have none : ∃ rn : List Nat, rn.length ≤ pn.length + qn.length - 1 ∧ (∀ y ∈ rn, y < 2 ^ M) ∧ impl_Field_compose.j0d (up pn) (up qn) true (M : Int) (P : Int) = some (up rn) ∧ spec_l03Compose.j0d (up pn) (up qn) true (M : Int) (P : Int) = some (up rn) :=
    ⟨[], by simp, fun y hy => (nomatch hy), by rw [impl_Field_compose.j0d_eq, if_pos rfl]; rfl, by rw [spec_l03Compose.j0d_eq, if_pos rfl]; rfl⟩
  rw [impl_Field_compose.d_eq, spec_l03Compose.d_eq]
  by_cases c1 : ((up pn).length : Int) = 0
  · rw [if_pos c1, if_pos c1]; exact none
  · rw [if_neg c1, if_neg c1]
    by_cases c2 : (up qn).length = 0
    · have e : (((up qn).length : Int) == 0) = true := by rw [c2]; rfl
      rw [e]; exact none
    · have e : (((up qn).length : Int) == 0) = false := beq_eq_false_iff_ne.mpr (by omega)
      rw [up_length] at c1 c2
      have hw : wrap64 (wrap64 (((up pn).length : Int) + ((up qn).length : Int)) - 1) = ((pn.length + qn.length - 1 : Nat) : Int) := by
        rw [up_length, up_length, wr (x := (pn.length : Int) + (qn.length : Int)) (by omega) (by omega), wr (by omega) (by omega)]; omega
      rw [e, impl_Field_compose.j0d_eq, spec_l03Compose.j0d_eq, if_neg Bool.false_ne_true, if_neg Bool.false_ne_true, hw, Int.toNat_natCast]
      obtain ⟨L, hL⟩ : ∃ L, L = pn.length + qn.length - 1 := ⟨_, rfl⟩
      rw [← hL, if_pos (show (0 : Int) ≤ (L : Int) by omega), if_pos (show (0 : Int) ≤ (L : Int) by omega), if_pos (show L ≤ 35184372088832 by omega), if_pos (show L ≤ 35184372088832 by omega), up_zeros]
      have key : ∀ i, i ≤ pn.length → ∀ on : List Nat, on.length = L → (∀ y ∈ on, y < 2 ^ M) → ∃ rn : List Nat, rn.length ≤ L ∧ (∀ y ∈ rn, y < 2 ^ M) ∧
          impl_Field_compose.l0d (up qn) (up on) (up pn) ((up pn).length : Int) (i : Int) (M : Int) (P : Int) = some (up rn) ∧ spec_l03Compose.l0d (up pn) (up qn) (up on) (i : Int) (M : Int) (P : Int) = some (up rn) := by
        apply down
        · intro on h1 h2
          obtain ⟨rn, r1, r2, r3, r4⟩ := trim_up (by omega) h2
          exact ⟨rn, by omega, r2, by rw [impl_Field_compose.l0d_eq, if_neg (by rw [up_length]; omega), r3, bind_some'], by rw [spec_l03Compose.l0d_eq, if_neg (by rw [up_length]; omega), r4, bind_some']⟩
        · intro i hi ih on h1 h2
          have a1 := hp _ (List.getElem_mem hi)
          have row : ∀ j, j ≤ qn.length → ∀ on : List Nat, on.length = L → (∀ y ∈ on, y < 2 ^ M) → ∃ rn : List Nat, rn.length ≤ L ∧ (∀ y ∈ rn, y < 2 ^ M) ∧
              impl_Field_compose.l1d (up qn) (up on) (i : Int) ((pn[i] : Nat) : Int) (up pn) ((up pn).length : Int) (i : Int) (up qn) ((up qn).length : Int) (j : Int) (M : Int) (P : Int) = some (up rn) ∧ spec_l03Compose.l1d (up pn) (up qn) (up on) (i : Int) (j : Int) (M : Int) (P : Int) = some (up rn) := by
            apply down
            · intro on h1 h2
              obtain ⟨rn, r1, r2, r3, r4⟩ := ih on h1 h2
              exact ⟨rn, r1, r2, by rw [impl_Field_compose.l1d_eq, if_neg (by rw [up_length]; omega), wrS hi (by omega), r3], by rw [spec_l03Compose.l1d_eq, if_neg (by rw [up_length]; omega), wrS hi (by omega), r4]⟩
            · intro j hj ihj on h1 h2
              have hij : i + j < on.length := by omega
              have w : wrap64 ((i : Int) + (j : Int)) = ((i + j : Nat) : Int) := by rw [wr (by omega) (by omega)]; omega
              have w2 : wrap64 ((j : Int) + 1) = ((j + 1 : Nat) : Int) := wrS hj (by omega)
              have m63 : M ≤ 63 := by omega
              have z1 : (j : Int) < ((up qn).length : Int) := by rw [up_length]; exact Int.ofNat_lt.mpr hj
              have z2 : (i : Int) < ((up pn).length : Int) := by rw [up_length]; exact Int.ofNat_lt.mpr hi
              have z3 : ((i + j : Nat) : Int) < ((up on).length : Int) := by rw [up_length]; exact Int.ofNat_lt.mpr hij
              have b1 := h2 _ (List.getElem_mem hij)
              have b2 := hq _ (List.getElem_mem hj)
              have b3 := fsq_lt h (i % M) b2
              have b4 := fmul_lt h a1 (fsq M P (i % M) qn[j])
              obtain ⟨rn, r1, r2, r3, r4⟩ := ihj (on.set (i + j) (on[i + j] ^^^ fmul M P pn[i] (fsq M P (i % M) qn[j]))) (by rw [List.length_set]; exact h1) (set_bound h2 (Nat.xor_lt_two_pow b1 b4))
              have x := bxor (small62 m63 b1) (small62 m63 b4)
              refine ⟨rn, r1, r2, ?_, ?_⟩
              · rw [impl_Field_compose.l1d_eq, if_pos z1, if_pos (Int.natCast_nonneg j), if_pos z1, w, if_pos (Int.natCast_nonneg (i + j)), if_pos z3, up_get hj, i_sq_v h i b2, bind_some', i_mul_v h a1 b3, bind_some', up_get hij, x, Int.toNat_natCast, up_set, w2, r3]
              · rw [spec_l03Compose.l1d_eq, if_pos z1, w, if_pos (Int.natCast_nonneg (i + j)), if_pos z3, if_pos (Int.natCast_nonneg i), if_pos z2, if_pos (Int.natCast_nonneg j), up_get hj, s_sq_v h i b2, bind_some', up_get hi, s_mul_v h a1 b3, bind_some', up_get hij, x, Int.toNat_natCast, up_set, w2, r4]
          obtain ⟨rn, r1, r2, r3, r4⟩ := row 0 (by omega) on h1 h2
          refine ⟨rn, r1, r2, ?_, ?_⟩
          · rw [impl_Field_compose.l0d_eq, if_pos (by rw [up_length]; omega), if_pos (by omega), if_pos (by rw [up_length]; omega), up_get hi]; exact r3
          · rw [spec_l03Compose.l0d_eq, if_pos (by rw [up_length]; omega)]; exact r4
      exact key 0 (by omega) (List.replicate L 0) (by simp) (zeros_bound (Nat.two_pow_pos M))
theorem drawnl_loop {l : List Int} (hb : Bytes l) (hl : l.length ≤ 4000) {M Q : Nat} (h : validB (M : Int) (Q : Int) = true) : ∀ k : Nat, ∀ (on : List Nat) (a t : Int), on.length + k ≤ 12 → 0 ≤ a → a + 2 * (k : Int) ≤ 1000 → (∀ y ∈ on, y < 2 ^ M) →
    ∃ (rn : List Nat) (b t' : Int), rn.length ≤ on.length + k ∧ (∀ y ∈ rn, y < 2 ^ M) ∧ (0 < rn.length → lst rn ≠ 0) ∧ spec_l03Drawn.l0d (up on) (k : Int) l a t (M : Int) (Q : Int) = some (up rn, b, t') := by
  have hv := valid_bits h
  have h5 : 2 ^ M ≤ 2 ^ 5 := Nat.pow_le_pow_right (by omega) hv.2.1
  have hp1 := Nat.two_pow_pos M
  intro k
  induction k with
  | zero =>
    intro on a t ho h0 ha hn
    obtain ⟨rn, r1, r2, _, r4, r5, _, _⟩ := trim_top (by omega) hn
    exact ⟨rn, a, t, by omega, r2, r5, by rw [spec_l03Drawn.l0d_eq, if_neg (by omega), r4, bind_some']⟩
  | succ k ih =>
    intro on a t ho h0 ha hn
    obtain ⟨v, b, t2, e, v0, v1, _, g, g'⟩ := pick_v hb hl (a := a) h0 (by omega) t ((2 ^ M : Nat) : Int) (by omega)
    obtain ⟨V, rfl⟩ : ∃ V : Nat, v = (V : Int) := ⟨v.toNat, by omega⟩
    have hV : V < 2 ^ M := by have := v1 (by omega); omega
    obtain ⟨rn, b', t', r1, r2, r3, r4⟩ := ih (on ++ [V]) b t2 (by simp; omega) (by omega) (by omega) (by
      intro y hy
      rcases List.mem_append.mp hy with z | z
      · exact hn y z
      · simp at z; rw [z]; exact hV)
    have w : wrap64 (((k + 1 : Nat) : Int) - 1) = (k : Int) := by rw [wr (by omega) (by omega)]; omega
    have g4 : (up on).length < 17592186044416 := by rw [up_length]; clear w; omega
    refine ⟨rn, b', t', by simp at r1; omega, r2, r3, ?_⟩
    rw [spec_l03Drawn.l0d_eq, if_pos (by omega), size_nat h, bind_some', e, bind_some', if_pos g4, w]
    rw [up_append] at r4
    exact r4
theorem drawnlin_v {l : List Int} (hb : Bytes l) (hl : l.length ≤ 4000) {M Q : Nat} (h : validB (M : Int) (Q : Int) = true) {n : Nat} (hn : n ≤ 12) :
    ∃ rn : List Nat, rn.length ≤ n ∧ (∀ y ∈ rn, y < 2 ^ M) ∧ (0 < rn.length → lst rn ≠ 0) ∧ spec_A2Linear.d l (M : Int) (Q : Int) (n : Int) = some (up rn) := by
  obtain ⟨v, b, t, e, v0, v1, _, g, g'⟩ := pick_v hb hl (a := 0) (by omega) (by omega) 0 ((n : Int) + 1) (by omega)
  obtain ⟨V, rfl⟩ : ∃ V : Nat, v = (V : Int) := ⟨v.toNat, by omega⟩
  have hV : V ≤ n := by have := v1 (by omega); omega
  obtain ⟨rn, b', t', r1, r2, r3, r4⟩ := drawnl_loop hb hl h V [] b t (by simp; omega) (by omega) (by omega) (by simp)
  refine ⟨rn, by simp at r1; omega, r2, r3, ?_⟩
  rw [spec_A2Linear.d_eq]
  unfold spec_l00From.f
  rw [bind_some']
  show (spec_l03Drawn.d l 0 0 (M : Int) (Q : Int) (n : Int)).bind _ = _
  rw [spec_l03Drawn.d_eq, wr (by omega) (by omega), e, bind_some']
  show (spec_l03Drawn.l0d (up []) (V : Int) l b t (M : Int) (Q : Int)).bind _ = _
  rw [r4, bind_some']
theorem lin_of {M : Nat} {ln : List Nat} (l : ln.length ≤ 12) (b : ∀ y ∈ ln, y < 2 ^ M) (z : 0 < ln.length → lst ln ≠ 0) : linB (M : Int) (up ln) = true := by
  unfold linB
  simp only [Bool.and_eq_true, Bool.or_eq_true, decide_eq_true_eq]
  refine ⟨⟨by rw [up_length]; exact l, ?_⟩, ?_⟩
  · rw [List.all_eq_true]
    intro x hx
    obtain ⟨y, hy, rfl⟩ := List.mem_map.mp hx
    exact elemB_nat2 (b y hy)
  · by_cases c : ln.length = 0
    · exact .inl (by rw [up_length]; exact c)
    · right
      have e : ((up ln).length : Int) - 1 = ((ln.length - 1 : Nat) : Int) := by rw [up_length]; omega
      have := z (by omega)
      rw [e, rd_lst (by omega)]
      omega
theorem lcode2 {M P : Nat} (h : validB (M : Int) (P : Int) = true) {a b : List Nat} (la : a.length ≤ 12) (lb : b.length ≤ 12) (ba : ∀ y ∈ a, y < 2 ^ M) (bb : ∀ y ∈ b, y < 2 ^ M) (za : 0 < a.length → lst a ≠ 0) (zb : 0 < b.length → lst b ≠ 0) :
    impl_Field_linearCode.d (M : Int) (P : Int) [up a, up b] = some 0 := by
  rw [i_linearCode2_v _ _ (by rw [up_length]; omega) (by rw [up_length]; omega), if_pos (by rw [h, lin_of la ba za, lin_of lb bb zb]; rfl)]
theorem vlin_v {M P : Nat} (h : validB (M : Int) (P : Int) = true) {a : List Nat} (la : a.length ≤ 12) (ba : ∀ y ∈ a, y < 2 ^ M) (za : 0 < a.length → lst a ≠ 0) : spec_ValidLinear.d (M : Int) (P : Int) (up a) = some true := by
  rw [s_ValidLinear_v _ _ (by rw [up_length]; omega), h, lin_of la ba za]; rfl
theorem compL_v {M P : Nat} (h : validB (M : Int) (P : Int) = true) {a b : List Nat} (la : a.length ≤ 12) (lb : b.length ≤ 12) (lab : a.length + b.length ≤ 13) (ba : ∀ y ∈ a, y < 2 ^ M) (bb : ∀ y ∈ b, y < 2 ^ M) (za : 0 < a.length → lst a ≠ 0) (zb : 0 < b.length → lst b ≠ 0) :
    ∃ rn : List Nat, impl_ComposeLinear.d (M : Int) (P : Int) (up a) (up b) = some (up rn, 0) ∧ rn.length ≤ 12 ∧ (∀ y ∈ rn, y < 2 ^ M) ∧ (0 < rn.length → lst rn ≠ 0) ∧ ∀ k, cf rn k = CM M P a b k := by
  obtain ⟨rn, r1, r2, r3, _⟩ := comp_both h (pn := a) (qn := b) (by omega) (by omega) ba bb
  obtain ⟨rn', d1, d2, d3⟩ := comp_cf h (pn := a) (qn := b) (by omega) (by omega) ba bb
  obtain rfl : rn' = rn := up_inj (Option.some.inj (d1.symm.trans r3))
  have g : ¬ ((up rn').length : Int) > 12 := by rw [up_length]; omega
  refine ⟨rn', ?_, by omega, r2, d3, fun k => by rw [d2, rs_CM (by omega)]⟩
  rw [impl_ComposeLinear.d_eq, lcode2 h la lb ba bb za zb, bind_some', if_pos rfl, r3, bind_some', if_neg g]
theorem sumL_v {M P : Nat} (h : validB (M : Int) (P : Int) = true) {a b : List Nat} (la : a.length ≤ 12) (lb : b.length ≤ 12) (ba : ∀ y ∈ a, y < 2 ^ M) (bb : ∀ y ∈ b, y < 2 ^ M) (za : 0 < a.length → lst a ≠ 0) (zb : 0 < b.length → lst b ≠ 0) :
    ∃ rn : List Nat, impl_SumLinear.d (M : Int) (P : Int) (up a) (up b) = some (up rn, 0) ∧ rn.length ≤ 12 ∧ (∀ y ∈ rn, y < 2 ^ M) ∧ (0 < rn.length → lst rn ≠ 0) ∧ ∀ k, cf rn k = cf a k ^^^ cf b k := by
  have hv := valid_bits h
  obtain ⟨rn, r1, r2, r3, _, _, _⟩ := plus_both (M := M) (by omega) (xn := a) (yn := b) (by omega) (by omega) ba bb
  obtain ⟨rn', d1, d2, d3⟩ := plus_cf (M := M) (by omega) (xn := a) (yn := b) (by omega) (by omega) ba bb
  obtain rfl : rn' = rn := up_inj (Option.some.inj (d1.symm.trans r3))
  refine ⟨rn', ?_, by omega, r2, d3, d2⟩
  rw [impl_SumLinear.d_eq, lcode2 h la lb ba bb za zb, bind_some', if_pos rfl, r3, bind_some']
theorem fsq_ad (M P : Nat) : ∀ (i k x : Nat), fsq M P (i + k) x = fsq M P k (fsq M P i x)
  | 0, k, x => by rw [Nat.zero_add]; rfl
  | i + 1, k, x => by
    rw [show i + 1 + k = (i + k) + 1 by omega]
    show fsq M P (i + k) (fmul M P x x) = fsq M P k (fsq M P i (fmul M P x x))
    exact fsq_ad M P i k _
def fsqMB (m p : Nat) : Bool := (List.range (2 ^ m)).all fun x => fsq m p m x == x
theorem fsqM_all : (fields14.all fun f => fsqMB f.1.toNat f.2.toNat) = true := by decide +kernel
theorem fsqM {M P : Nat} (h : validB (M : Int) (P : Int) = true) {x : Nat} (hx : x < 2 ^ M) : fsq M P M x = x := by
  have h' : ((M : Int), (P : Int)) ∈ fields14 := by simpa [validB] using h
  have t : fsqMB M P = true := by simpa using List.all_eq_true.mp fsqM_all _ h'
  unfold fsqMB at t
  simpa using List.all_eq_true.mp t x (List.mem_range.mpr hx)
theorem fsq_mod {M P : Nat} (h : validB (M : Int) (P : Int) = true) {x : Nat} (hx : x < 2 ^ M) : ∀ n, fsq M P (n % M) x = fsq M P n x := by
  have hv := valid_bits h
  intro n
  induction n using Nat.strongRecOn with
  | ind n ih =>
    by_cases c : n < M
    · rw [Nat.mod_eq_of_lt c]
    · rw [Nat.mod_eq_sub_mod (by omega), ih (n - M) (by omega)]
      have : n = M + (n - M) := by omega
      conv => rhs; rw [this, fsq_ad, fsqM h hx]
theorem fsq_ml {M P : Nat} (h : validB (M : Int) (P : Int) = true) : ∀ (k : Nat) {a b : Nat}, a < 2 ^ M → b < 2 ^ M → fsq M P k (fmul M P a b) = fmul M P (fsq M P k a) (fsq M P k b)
  | 0, a, b, _, _ => rfl
  | k + 1, a, b, ha, hb => by
    have ab := fmul_lt h ha b
    have aa := fmul_lt h ha a
    have bb := fmul_lt h hb b
    have e : fmul M P (fmul M P a b) (fmul M P a b) = fmul M P (fmul M P a a) (fmul M P b b) := by
      rw [fmul_assoc h ha hb ab, ← fmul_assoc h hb ha hb, fmul_comm h hb ha, fmul_assoc h ha hb hb, ← fmul_assoc h ha ha bb]
    show fsq M P k (fmul M P (fmul M P a b) (fmul M P a b)) = fmul M P (fsq M P k (fmul M P a a)) (fsq M P k (fmul M P b b))
    rw [e, fsq_ml h k aa bb]
/-- the sum of the first n of f -/
def XS (f : Nat → Nat) : Nat → Nat
  | 0 => 0
  | n + 1 => XS f n ^^^ f n
theorem XS_congr {f g : Nat → Nat} : ∀ n, (∀ k, k < n → f k = g k) → XS f n = XS g n
  | 0, _ => rfl
  | n + 1, h => by
    show XS f n ^^^ f n = XS g n ^^^ g n
    rw [XS_congr n fun k hk => h k (by omega), h n (by omega)]
theorem XS_xor (f g : Nat → Nat) : ∀ n, XS (fun k => f k ^^^ g k) n = XS f n ^^^ XS g n
  | 0 => (Nat.xor_self 0).symm
  | n + 1 => by
    show XS (fun k => f k ^^^ g k) n ^^^ (f n ^^^ g n) = (XS f n ^^^ f n) ^^^ (XS g n ^^^ g n)
    rw [XS_xor f g n, xor4]
theorem XS_zero : ∀ n, XS (fun _ => 0) n = 0
  | 0 => rfl
  | n + 1 => by show XS (fun _ => 0) n ^^^ 0 = 0; rw [XS_zero n]; rfl
theorem XS_swap (f : Nat → Nat → Nat) (m : Nat) : ∀ n, XS (fun k => XS (fun i => f i k) m) n = XS (fun i => XS (fun k => f i k) n) m
  | 0 => (XS_zero m).symm
  | n + 1 => by
    show XS (fun k => XS (fun i => f i k) m) n ^^^ XS (fun i => f i n) m = _
    rw [XS_swap f m n, ← XS_xor]; rfl
theorem XS_mul_l (M P : Nat) (f : Nat → Nat) (b : Nat) : ∀ n, fmul M P (XS f n) b = XS (fun k => fmul M P (f k) b) n
  | 0 => fmul_0l M P b
  | n + 1 => by
    show fmul M P (XS f n ^^^ f n) b = XS (fun k => fmul M P (f k) b) n ^^^ fmul M P (f n) b
    rw [fmul_xor_l, XS_mul_l M P f b n]
theorem XS_mul_r (M P : Nat) (f : Nat → Nat) (a : Nat) : ∀ n, fmul M P a (XS f n) = XS (fun k => fmul M P a (f k)) n
  | 0 => fmul_0r M P a
  | n + 1 => by
    show fmul M P a (XS f n ^^^ f n) = XS (fun k => fmul M P a (f k)) n ^^^ fmul M P a (f n)
    rw [fmul_xor_r, XS_mul_r M P f a n]
theorem XS_lt {f : Nat → Nat} {M : Nat} (hf : ∀ k, f k < 2 ^ M) : ∀ n, XS f n < 2 ^ M
  | 0 => Nat.two_pow_pos M
  | n + 1 => Nat.xor_lt_two_pow (XS_lt hf n) (hf n)
theorem XS_sq {M P : Nat} (h : validB (M : Int) (P : Int) = true) {f : Nat → Nat} (hf : ∀ k, f k < 2 ^ M) (k : Nat) : ∀ n, fsq M P k (XS f n) = XS (fun i => fsq M P k (f i)) n
  | 0 => fsq_z h k
  | n + 1 => by
    show fsq M P k (XS f n ^^^ f n) = XS (fun i => fsq M P k (f i)) n ^^^ fsq M P k (f n)
    rw [fsq_xor h k (XS_lt hf n) (hf n), XS_sq h hf k n]
theorem XS_left (f : Nat → Nat) : ∀ n, XS f (n + 1) = f 0 ^^^ XS (fun k => f (k + 1)) n
  | 0 => by show 0 ^^^ f 0 = f 0 ^^^ 0; rw [Nat.zero_xor, Nat.xor_zero]
  | n + 1 => by
    show XS f (n + 1) ^^^ f (n + 1) = f 0 ^^^ (XS (fun k => f (k + 1)) n ^^^ f (n + 1))
    rw [XS_left f n, Nat.xor_assoc]
theorem XS_shift (f : Nat → Nat) : ∀ i n, (∀ k, k < i → f k = 0) → XS f (i + n) = XS (fun k => f (i + k)) n
  | 0, n, _ => by rw [Nat.zero_add]; exact XS_congr n fun k _ => by rw [Nat.zero_add]
  | i + 1, n, h => by
    rw [show i + 1 + n = (i + n) + 1 by omega, XS_left, h 0 (by omega), Nat.zero_xor, XS_shift (fun k => f (k + 1)) i n fun k hk => h (k + 1) (by omega)]
    exact XS_congr n fun k _ => by rw [show i + k + 1 = i + 1 + k by omega]
theorem XS_long (f : Nat → Nat) (n : Nat) : ∀ d, (∀ k, n ≤ k → f k = 0) → XS f (n + d) = XS f n
  | 0, _ => rfl
  | d + 1, h => by
    show XS f (n + d) ^^^ f (n + d) = XS f n
    rw [XS_long f n d h, h (n + d) (by omega), Nat.xor_zero]
/-- a term of a value -/
def ft (M P : Nat) (p : List Nat) (x i : Nat) : Nat := fmul M P (cf p i) (fsq M P (i % M) x)
theorem fval_XS (M P : Nat) (p : List Nat) (x : Nat) : ∀ n, fval M P p x n = XS (ft M P p x) n
  | 0 => rfl
  | n + 1 => by
    show fval M P p x n ^^^ fmul M P (p.getD n 0) (fsq M P (n % M) x) = XS (ft M P p x) n ^^^ ft M P p x n
    rw [fval_XS M P p x n]; rfl
theorem ft_out {M P : Nat} {p : List Nat} {x i : Nat} (h : p.length ≤ i) : ft M P p x i = 0 := by unfold ft; rw [cf_out h, fmul_0l]
/-- the value, all terms -/
def FV (M P : Nat) (p : List Nat) (x : Nat) : Nat := fval M P p x p.length
theorem FV_XS {M P : Nat} {p : List Nat} {x n : Nat} (h : p.length ≤ n) : FV M P p x = XS (ft M P p x) n := by
  unfold FV
  rw [fval_XS, show n = p.length + (n - p.length) by omega]
  exact (XS_long _ _ _ fun k hk => ft_out hk).symm
theorem FV_lt {M P : Nat} (h : validB (M : Int) (P : Int) = true) {p : List Nat} (hp : ∀ y ∈ p, y < 2 ^ M) (x : Nat) : FV M P p x < 2 ^ M := fval_lt h hp x _ (Nat.le_refl _)
theorem FV_xor {M P : Nat} (h : validB (M : Int) (P : Int) = true) {p : List Nat} {x y : Nat} (hx : x < 2 ^ M) (hy : y < 2 ^ M) : FV M P p (x ^^^ y) = FV M P p x ^^^ FV M P p y := by
  rw [FV_XS (Nat.le_refl _), FV_XS (Nat.le_refl _), FV_XS (x := y) (Nat.le_refl _), ← XS_xor]
  exact XS_congr _ fun k _ => by unfold ft; rw [fsq_xor h _ hx hy, fmul_xor_r]
theorem FV_0 {M P : Nat} (h : validB (M : Int) (P : Int) = true) (p : List Nat) : FV M P p 0 = 0 := by
  have := FV_xor h (p := p) (Nat.two_pow_pos M) (Nat.two_pow_pos M) (x := 0) (y := 0)
  rwa [Nat.xor_self, Nat.xor_self] at this
theorem FV_add {M P : Nat} {a b s : List Nat} (hs : ∀ k, cf s k = cf a k ^^^ cf b k) (x : Nat) : FV M P s x = FV M P a x ^^^ FV M P b x := by
  obtain ⟨n, hn⟩ : ∃ n, n = max s.length (max a.length b.length) := ⟨_, rfl⟩
  rw [FV_XS (p := s) (n := n) (by omega), FV_XS (p := a) (n := n) (by omega), FV_XS (p := b) (n := n) (by omega), ← XS_xor]
  exact XS_congr _ fun k _ => by unfold ft; rw [hs, fmul_xor_l]
theorem rs_XS (M P : Nat) (p q : List Nat) (k : Nat) : ∀ n i, rs M P p q k n i = XS (fun j => tm M P p q (i + j) k) n
  | 0, _ => rfl
  | n + 1, i => by
    show tm M P p q i k ^^^ rs M P p q k n (i + 1) = _
    rw [XS_left, rs_XS M P p q k n (i + 1)]
    congr 1
    exact XS_congr n fun j _ => by rw [show i + 1 + j = i + (j + 1) by omega]
theorem FV_comp {M P : Nat} (h : validB (M : Int) (P : Int) = true) {p q r : List Nat} (hp : ∀ y ∈ p, y < 2 ^ M) (hq : ∀ y ∈ q, y < 2 ^ M) (lp : p.length ≤ 24) (lq : q.length ≤ 24) (lr : r.length ≤ 48) (hr : ∀ k, cf r k = CM M P p q k) {x : Nat} (hx : x < 2 ^ M) :
    FV M P r x = FV M P p (FV M P q x) := by
  have P0 := Nat.two_pow_pos M
  have cq := fun j => cf_lt P0 hq j
  have cp := fun j => cf_lt P0 hp j
  have sx := fun j => fsq_lt h j hx
  have e1 : FV M P r x = XS (fun i => XS (fun k => fmul M P (tm M P p q i k) (fsq M P (k % M) x)) 48) 24 := by
    rw [FV_XS lr, ← XS_swap]
    refine XS_congr _ fun k _ => ?_
    unfold ft
    rw [hr, show CM M P p q k = XS (fun j => tm M P p q (0 + j) k) 24 from rs_XS M P p q k 24 0, XS_mul_l]
    exact XS_congr _ fun i _ => by rw [Nat.zero_add]
  have e2 : FV M P p (FV M P q x) = XS (fun i => XS (fun j => fmul M P (fmul M P (cf p i) (fsq M P (i % M) (cf q j))) (fsq M P ((i + j) % M) x)) 24) 24 := by
    rw [FV_XS lp]
    refine XS_congr _ fun i _ => ?_
    unfold ft
    rw [FV_XS lq, XS_sq h (f := ft M P q x) (fun k => fmul_lt h (cq k) _), XS_mul_r]
    refine XS_congr _ fun j _ => ?_
    unfold ft
    rw [fsq_ml h _ (cq j) (sx _), fmul_assoc h (cp i) (fsq_lt h _ (cq j)) (fsq_lt h _ hx)]
    congr 2
    rw [fsq_mod h hx j, fsq_mod h (sx j) i, ← fsq_ad, fsq_mod h hx (i + j), Nat.add_comm j i]
  rw [e1, e2]
  refine XS_congr _ fun i hi => ?_
  rw [show (48 : Nat) = i + (24 + (24 - i)) by omega, XS_shift _ i _ fun k hk => by unfold tm; rw [if_neg (by omega), fmul_0l]]
  rw [XS_long _ 24 (24 - i) fun k hk => by unfold tm; rw [if_pos (by omega), Nat.add_sub_cancel_left, cf_out (l := q) (by omega), fsq_z h, fmul_0r, fmul_0l]]
  exact XS_congr _ fun j _ => by unfold tm; rw [if_pos (by omega), Nat.add_sub_cancel_left]
def cnt (q : Nat → Bool) : Nat → Nat
  | 0 => 0
  | n + 1 => cnt q n + if q n = true then 1 else 0
theorem cnt_filter (q : Nat → Bool) : ∀ n, ((List.range n).filter q).length = cnt q n
  | 0 => rfl
  | n + 1 => by
    rw [List.range_succ, List.filter_append, List.length_append, cnt_filter q n]
    show _ = cnt q n + if q n = true then 1 else 0
    congr 1
    by_cases c : q n = true <;> simp [c]
theorem cnt_congr {q q' : Nat → Bool} : ∀ n, (∀ x, x < n → q x = q' x) → cnt q n = cnt q' n
  | 0, _ => rfl
  | n + 1, h => by
    show cnt q n + (if q n = true then 1 else 0) = cnt q' n + if q' n = true then 1 else 0
    rw [cnt_congr n fun x hx => h x (by omega), h n (by omega)]
theorem cnt_add (q : Nat → Bool) (a : Nat) : ∀ b, cnt q (a + b) = cnt q a + cnt (fun x => q (a + x)) b
  | 0 => rfl
  | b + 1 => by
    show cnt q (a + b) + (if q (a + b) = true then 1 else 0) = cnt q a + (cnt (fun x => q (a + x)) b + if q (a + b) = true then 1 else 0)
    rw [cnt_add q a b]; omega
theorem cnt_none {q : Nat → Bool} : ∀ n, (∀ x, x < n → q x = false) → cnt q n = 0
  | 0, _ => rfl
  | n + 1, h => by
    show cnt q n + (if q n = true then 1 else 0) = 0
    rw [cnt_none n fun x hx => h x (by omega), h n (by omega)]; rfl
theorem cnt_mono {q q' : Nat → Bool} : ∀ n, (∀ x, x < n → q x = true → q' x = true) → cnt q n ≤ cnt q' n
  | 0, _ => Nat.le_refl _
  | n + 1, h => by
    show cnt q n + (if q n = true then 1 else 0) ≤ cnt q' n + if q' n = true then 1 else 0
    have a := cnt_mono n fun x hx => h x (by omega)
    have b := h n (by omega)
    by_cases c : q n = true
    · rw [if_pos c, if_pos (b c)]; omega
    · rw [if_neg c]; omega
theorem cnt_eq (x1 : Nat) : ∀ n, cnt (fun x => x == x1) n ≤ 1 ∧ (n ≤ x1 → cnt (fun x => x == x1) n = 0)
  | 0 => ⟨Nat.zero_le _, fun _ => rfl⟩
  | n + 1 => by
    have ⟨a, b⟩ := cnt_eq x1 n
    have e : cnt (fun x => x == x1) (n + 1) = cnt (fun x => x == x1) n + if (n == x1) = true then 1 else 0 := rfl
    by_cases c : n = x1
    · have z : (n == x1) = true := beq_iff_eq.mpr c
      rw [e, if_pos z, b (by omega)]
      exact ⟨Nat.le_refl _, fun h => by omega⟩
    · have z : ¬ (n == x1) = true := by simpa using c
      rw [e, if_neg z, Nat.add_zero]
      exact ⟨a, fun h => b (by omega)⟩
theorem cnt_or (q q' : Nat → Bool) : ∀ n, cnt (fun x => q x || q' x) n ≤ cnt q n + cnt q' n
  | 0 => Nat.le_refl _
  | n + 1 => by
    show cnt (fun x => q x || q' x) n + (if (q n || q' n) = true then 1 else 0) ≤ (cnt q n + if q n = true then 1 else 0) + (cnt q' n + if q' n = true then 1 else 0)
    have a := cnt_or q q' n
    cases q n <;> cases q' n <;> simp <;> omega
theorem cnt_two {q : Nat → Bool} {n x1 x2 : Nat} (h : ∀ x, x < n → q x = true → x = x1 ∨ x = x2) : cnt q n ≤ 2 := by
  have a := cnt_mono (q := q) (q' := fun x => (x == x1) || (x == x2)) n (fun x hx hq => by
    rcases h x hx hq with e | e <;> simp [e])
  have b := cnt_or (fun x => x == x1) (fun x => x == x2) n
  have c := (cnt_eq x1 n).1
  have d := (cnt_eq x2 n).1
  omega
theorem cnt_one {q : Nat → Bool} {n x1 : Nat} (h : ∀ x, x < n → q x = true → x = x1) : cnt q n ≤ 1 :=
  Nat.le_trans (cnt_mono n fun x hx hq => beq_iff_eq.mpr (h x hx hq)) (cnt_eq x1 n).1
/-- the sum of the first n of f -/
def SU (f : Nat → Nat) : Nat → Nat
  | 0 => 0
  | n + 1 => SU f n + f n
theorem SU_le {f g : Nat → Nat} : ∀ n, (∀ v, v < n → f v ≤ g v) → SU f n ≤ SU g n
  | 0, _ => Nat.le_refl _
  | n + 1, h => Nat.add_le_add (SU_le n fun v hv => h v (by omega)) (h n (by omega))
theorem SU_congr {f g : Nat → Nat} : ∀ n, (∀ v, v < n → f v = g v) → SU f n = SU g n
  | 0, _ => rfl
  | n + 1, h => by show SU f n + f n = SU g n + g n; rw [SU_congr n fun v hv => h v (by omega), h n (by omega)]
theorem SU_zero : ∀ n, SU (fun _ => 0) n = 0
  | 0 => rfl
  | n + 1 => by show SU (fun _ => 0) n + 0 = 0; rw [SU_zero n]
theorem SU_add (f g : Nat → Nat) : ∀ n, SU (fun v => f v + g v) n = SU f n + SU g n
  | 0 => rfl
  | n + 1 => by show SU (fun v => f v + g v) n + (f n + g n) = (SU f n + f n) + (SU g n + g n); rw [SU_add f g n]; omega
theorem SU_one {w b : Nat} : ∀ n, SU (fun v => if v = w then b else 0) n = if w < n then b else 0
  | 0 => by rw [if_neg (by omega)]; rfl
  | n + 1 => by
    show SU (fun v => if v = w then b else 0) n + (if n = w then b else 0) = _
    rw [SU_one n]
    by_cases c : n = w
    · rw [if_pos c, if_neg (by omega), if_pos (by omega)]; omega
    · rw [if_neg c]
      by_cases d : w < n
      · rw [if_pos d, if_pos (by omega), Nat.add_zero]
      · rw [if_neg d, if_neg (by omega)]
theorem SU_cnt (g : Nat → Bool) : ∀ n, SU (fun v => if g v = true then 2 else 0) n = 2 * cnt g n
  | 0 => rfl
  | n + 1 => by
    show SU (fun v => if g v = true then 2 else 0) n + (if g n = true then 2 else 0) = 2 * (cnt g n + if g n = true then 1 else 0)
    rw [SU_cnt g n]
    by_cases c : g n = true
    · rw [if_pos c, if_pos c]; omega
    · rw [if_neg c, if_neg c]; omega
theorem cnt_by {g : Nat → Bool} {L : Nat → Nat} {n : Nat} : ∀ m, (∀ x, x < m → L x < n) → cnt (fun x => g (L x)) m = SU (fun v => if g v = true then cnt (fun x => L x == v) m else 0) n
  | 0, _ => by
    have : SU (fun v => if g v = true then cnt (fun x => L x == v) 0 else 0) n = SU (fun _ => 0) n := SU_congr n fun v _ => by
      show (if g v = true then 0 else 0) = 0
      split <;> rfl
    rw [this, SU_zero]; rfl
  | m + 1, h => by
    have ih := cnt_by (g := g) (L := L) (n := n) m fun x hx => h x (by omega)
    have hm := h m (by omega)
    have e : SU (fun v => if g v = true then cnt (fun x => L x == v) (m + 1) else 0) n = SU (fun v => (if g v = true then cnt (fun x => L x == v) m else 0) + (if v = L m then (if g (L m) = true then 1 else 0) else 0)) n := SU_congr n fun v _ => by
      show (if g v = true then cnt (fun x => L x == v) m + (if (L m == v) = true then 1 else 0) else 0) = _
      by_cases c : v = L m
      · rw [c]
        by_cases d : g (L m) = true
        · rw [if_pos d, if_pos d, if_pos rfl, if_pos d, if_pos (by simp)]
        · rw [if_neg d, if_neg d, if_pos rfl, if_neg d]
      · have z : ¬ (L m == v) = true := by simpa using fun z => c z.symm
        rw [if_neg z, if_neg c]; rfl
    show cnt (fun x => g (L x)) m + (if g (L m) = true then 1 else 0) = _
    rw [e, SU_add, ← ih, SU_one, if_pos hm]
theorem cnt_fib {g : Nat → Bool} {L : Nat → Nat} {n : Nat} (hL : ∀ x, x < n → L x < n) (h2 : ∀ v, cnt (fun x => L x == v) n ≤ 2) : cnt (fun x => g (L x)) n ≤ 2 * cnt g n := by
  rw [cnt_by n hL, ← SU_cnt]
  refine SU_le n fun v _ => ?_
  by_cases c : g v = true
  · rw [if_pos c, if_pos c]; exact h2 v
  · rw [if_neg c, if_neg c]; exact Nat.le_refl _
theorem two_xor {j x : Nat} (h : x < 2 ^ j) : 2 ^ j + x = 2 ^ j ^^^ x := by
  apply Nat.eq_of_testBit_eq
  intro i
  rw [Nat.testBit_xor, Nat.testBit_two_pow]
  rcases Nat.lt_trichotomy i j with c | c | c
  · rw [Nat.testBit_two_pow_add_gt c, decide_eq_false (by omega), Bool.false_xor]
  · subst c
    rw [Nat.testBit_two_pow_add_eq, decide_eq_true rfl, Bool.true_xor]
  · rw [decide_eq_false (by omega), Bool.false_xor]
    have p : 2 ^ (j + 1) ≤ 2 ^ i := Nat.pow_le_pow_right (by omega) c
    rw [Nat.pow_succ] at p
    rw [Nat.testBit_lt_two_pow (by omega), Nat.testBit_lt_two_pow (by omega)]
theorem cnt_xor : ∀ (j : Nat) (q : Nat → Bool) (x0 : Nat), x0 < 2 ^ j → cnt (fun x => q (x ^^^ x0)) (2 ^ j) = cnt q (2 ^ j)
  | 0, q, x0, h => by
    have : x0 = 0 := by simpa using h
    subst this
    exact cnt_congr _ fun x _ => by simp
  | j + 1, q, x0, h => by
    have e : 2 ^ (j + 1) = 2 ^ j + 2 ^ j := by rw [Nat.pow_succ]; omega
    rw [e, cnt_add, cnt_add]
    by_cases c : x0 < 2 ^ j
    · have e2 : cnt (fun x => q ((2 ^ j + x) ^^^ x0)) (2 ^ j) = cnt (fun x => q (2 ^ j + (x ^^^ x0))) (2 ^ j) := cnt_congr _ fun x hx => by
        rw [two_xor hx, two_xor (Nat.xor_lt_two_pow hx c), Nat.xor_assoc]
      rw [e2, cnt_xor j q x0 c, cnt_xor j (fun y => q (2 ^ j + y)) x0 c]
    · obtain ⟨y0, hy0⟩ : ∃ y0, x0 = 2 ^ j + y0 := ⟨x0 - 2 ^ j, by omega⟩
      have ly : y0 < 2 ^ j := by omega
      have e1 : cnt (fun x => q (x ^^^ x0)) (2 ^ j) = cnt (fun x => q (2 ^ j + (x ^^^ y0))) (2 ^ j) := cnt_congr _ fun x hx => by
        rw [hy0, two_xor ly, two_xor (Nat.xor_lt_two_pow hx ly), ← Nat.xor_assoc, Nat.xor_comm x, Nat.xor_assoc]
      have e2 : cnt (fun x => q ((2 ^ j + x) ^^^ x0)) (2 ^ j) = cnt (fun x => q (x ^^^ y0)) (2 ^ j) := cnt_congr _ fun x hx => by
        rw [hy0, two_xor ly, two_xor hx, xor4, Nat.xor_self, Nat.zero_xor]
      rw [e1, e2, cnt_xor j q y0 ly, cnt_xor j (fun y => q (2 ^ j + y)) y0 ly]
      omega
theorem Dep.tail {v : Nat} {B : List Nat} (hB : ¬ Dep B) (hv : ¬ Sp B v) : ¬ Dep (v :: B) := by
  rintro ⟨s, h1, h2, h3⟩
  match s, h1, h2, h3 with
  | c :: s, h1, h2, h3 =>
    rw [sel] at h3
    by_cases hc : c = true
    · rw [if_pos hc] at h3
      have e : v = sel s B := by
        have t := congrArg (fun z => z ^^^ sel s B) h3
        simpa [Nat.xor_assoc] using t
      exact hv (e ▸ sel_sp B s B fun r hr => Sp.mem hr)
    · rw [if_neg hc, Nat.zero_xor] at h3
      refine hB ⟨s, by simpa using h1, ?_, h3⟩
      rcases List.mem_cons.mp h2 with z | z
      · exact absurd z.symm hc
      · exact z
theorem RED.nodep : ∀ {R C : List Nat}, RED R C → ¬ Dep R
  | [], [], _ => by
    rintro ⟨s, h1, h2, _⟩
    have : s = [] := List.eq_nil_of_length_eq_zero (by simpa using h1)
    rw [this] at h2; cases h2
  | r :: R, c :: C, h => by
    obtain ⟨h1, h2, h3, h4⟩ := h
    refine Dep.tail (RED.nodep h4) fun hs => ?_
    have low := RED.low h4 (b := c) (fun d hd => (h3 d hd).1)
    have := Sp.bit low hs
    rw [h1] at this; cases this
  | [], _ :: _, h => h.elim
  | _ :: _, [], h => h.elim
theorem count_lin {M : Nat} {f : Nat → Nat} (hf : ∀ x y, x < 2 ^ M → y < 2 ^ M → f (x ^^^ y) = f x ^^^ f y) : ∀ j, j ≤ M → ∃ B : List Nat, (∀ v, Sp B v ↔ ∃ x, x < 2 ^ j ∧ f x = v) ∧ ¬ Dep B ∧ cnt (fun x => f x == 0) (2 ^ j) * 2 ^ B.length = 2 ^ j := by
  have f0 : f 0 = 0 := by
    have := hf 0 0 (Nat.two_pow_pos M) (Nat.two_pow_pos M)
    rwa [Nat.xor_self, Nat.xor_self] at this
  intro j
  induction j with
  | zero =>
    intro _
    refine ⟨[], fun v => ⟨fun h => ⟨0, by decide, by rw [f0, h.nil]⟩, ?_⟩, ?_, ?_⟩
    · rintro ⟨x, hx, rfl⟩
      have : x = 0 := by simpa using hx
      rw [this, f0]; exact Sp.zero
    · exact RED.nodep (R := []) (C := []) trivial
    · show (0 + if (f 0 == 0) = true then 1 else 0) * 2 ^ 0 = 2 ^ 0
      rw [f0]; rfl
  | succ j ih =>
    intro hj
    obtain ⟨B, b1, b2, b3⟩ := ih (by omega)
    have pj : 2 ^ (j + 1) ≤ 2 ^ M := Nat.pow_le_pow_right (by omega) hj
    have e : 2 ^ (j + 1) = 2 ^ j + 2 ^ j := by rw [Nat.pow_succ]; omega
    have fx : ∀ x, x < 2 ^ j → f (2 ^ j + x) = f (2 ^ j) ^^^ f x := fun x hx => by rw [two_xor hx]; exact hf _ _ (by omega) (by omega)
    have beq : ∀ a b : Nat, (a ^^^ b == 0) = (b == a) := fun a b => by
      by_cases c : b = a
      · rw [c, Nat.xor_self]; simp
      · have z : ¬ a ^^^ b = 0 := fun z => c (by
          have t := congrArg (fun z => z ^^^ b) z
          have t' : a = b := by simpa [Nat.xor_assoc] using t
          exact t'.symm)
        rw [beq_eq_false_iff_ne.mpr c, beq_eq_false_iff_ne.mpr z]
    have split : cnt (fun x => f x == 0) (2 ^ (j + 1)) = cnt (fun x => f x == 0) (2 ^ j) + cnt (fun x => f x == f (2 ^ j)) (2 ^ j) := by
      rw [e, cnt_add]
      congr 1
      exact cnt_congr _ fun x hx => by rw [fx x hx, beq]
    have im : ∀ u, (∃ x, x < 2 ^ (j + 1) ∧ f x = u) ↔ (∃ x, x < 2 ^ j ∧ f x = u) ∨ ∃ x, x < 2 ^ j ∧ f (2 ^ j) ^^^ f x = u := by
      intro u
      constructor
      · rintro ⟨x, hx, hu⟩
        by_cases c : x < 2 ^ j
        · exact .inl ⟨x, c, hu⟩
        · exact .inr ⟨x - 2 ^ j, by omega, by rw [← fx _ (by omega), show 2 ^ j + (x - 2 ^ j) = x by omega, hu]⟩
      · rintro (⟨x, hx, hu⟩ | ⟨x, hx, hu⟩)
        · exact ⟨x, by omega, hu⟩
        · exact ⟨2 ^ j + x, by omega, by rw [fx x hx, hu]⟩
    by_cases hv : Sp B (f (2 ^ j))
    · obtain ⟨x0, hx0, ex0⟩ := (b1 _).mp hv
      refine ⟨B, fun u => ?_, b2, ?_⟩
      · rw [im]
        constructor
        · intro h; exact .inl ((b1 u).mp h)
        · rintro (h | ⟨x, hx, hu⟩)
          · exact (b1 u).mpr h
          · rw [← hu]; exact hv.xor ((b1 _).mpr ⟨x, hx, rfl⟩)
      · have : cnt (fun x => f x == f (2 ^ j)) (2 ^ j) = cnt (fun x => f x == 0) (2 ^ j) := by
          rw [← cnt_xor j (fun x => f x == 0) x0 hx0]
          exact cnt_congr _ fun x hx => by rw [hf x x0 (by omega) (by omega), ex0, Nat.xor_comm, beq]
        rw [split, this, Nat.add_mul, b3, e]
    · refine ⟨f (2 ^ j) :: B, fun u => ?_, Dep.tail b2 hv, ?_⟩
      · rw [im]
        constructor
        · intro h
          rcases h.cons with h | h
          · exact .inl ((b1 u).mp h)
          · obtain ⟨x, hx, ex⟩ := (b1 _).mp h
            exact .inr ⟨x, hx, by rw [ex, Nat.xor_comm u, ← Nat.xor_assoc, Nat.xor_self, Nat.zero_xor]⟩
        · rintro (h | ⟨x, hx, hu⟩)
          · exact Sp.mono (fun r hr => List.mem_cons_of_mem _ hr) ((b1 u).mpr h)
          · rw [← hu]
            exact Sp.xor (Sp.mem (by simp)) (Sp.mono (fun r hr => List.mem_cons_of_mem _ hr) ((b1 _).mpr ⟨x, hx, rfl⟩))
      · have : cnt (fun x => f x == f (2 ^ j)) (2 ^ j) = 0 := cnt_none _ fun x hx => by
          rw [beq_eq_false_iff_ne]
          intro z
          exact hv ((b1 _).mpr ⟨x, hx, z⟩)
        rw [split, this, Nat.add_zero, List.length_cons, Nat.pow_succ, ← Nat.mul_assoc, b3, e]
        omega
/-- how many a linear map takes to 0: by the number of reduced rows that have its values as their sums -/
theorem count_rank {M : Nat} {f : Nat → Nat} (hf : ∀ x y, x < 2 ^ M → y < 2 ^ M → f (x ^^^ y) = f x ^^^ f y) {R C : List Nat} (hR : RED R C) (hs : ∀ v, Sp R v ↔ Sp ((List.range M).map fun i => f (2 ^ i)) v) : cnt (fun x => f x == 0) (2 ^ M) * 2 ^ R.length = 2 ^ M := by
  obtain ⟨B, b1, b2, b3⟩ := count_lin hf M (Nat.le_refl _)
  have f0 : f 0 = 0 := by
    have := hf 0 0 (Nat.two_pow_pos M) (Nat.two_pow_pos M)
    rwa [Nat.xor_self, Nat.xor_self] at this
  have sp : ∀ j, j ≤ M → ∀ x, x < 2 ^ j → Sp ((List.range M).map fun i => f (2 ^ i)) (f x) := by
    intro j
    induction j with
    | zero => intro _ x hx; have : x = 0 := by simpa using hx
              rw [this, f0]; exact Sp.zero
    | succ j ih =>
      intro hj x hx
      by_cases c : x < 2 ^ j
      · exact ih (by omega) x c
      · have e : 2 ^ (j + 1) = 2 ^ j + 2 ^ j := by rw [Nat.pow_succ]; omega
        have pj : 2 ^ (j + 1) ≤ 2 ^ M := Nat.pow_le_pow_right (by omega) hj
        have ex : x = 2 ^ j ^^^ (x - 2 ^ j) := by rw [← two_xor (by omega)]; omega
        rw [ex, hf _ _ (by omega) (by omega)]
        exact Sp.xor (Sp.mem (List.mem_map.mpr ⟨j, List.mem_range.mpr (by omega), rfl⟩)) (ih (by omega) _ (by omega))
  have same : ∀ v, Sp B v ↔ Sp R v := by
    intro v
    rw [hs]
    constructor
    · intro h
      obtain ⟨x, hx, ex⟩ := (b1 v).mp h
      rw [← ex]; exact sp M (Nat.le_refl _) x hx
    · intro h
      refine h.sub fun r hr => ?_
      obtain ⟨i, hi, rfl⟩ := List.mem_map.mp hr
      exact (b1 _).mpr ⟨2 ^ i, Nat.pow_lt_pow_right (by omega) (List.mem_range.mp hi), rfl⟩
  have l1 : ¬ R.length < B.length := fun h => b2 (exch R B (fun l hl => (same l).mp (Sp.mem hl)) h)
  have l2 : ¬ B.length < R.length := fun h => hR.nodep (exch B R (fun l hl => (same l).mpr (Sp.mem hl)) h)
  rw [show R.length = B.length by omega]; exact b3
theorem len1 {l : List Nat} (h : l.length ≤ 12) (n : 0 < l.length) : wrap64 ((l.length : Int) - 1) = ((l.length - 1 : Nat) : Int) := by rw [wr (by omega) (by omega)]; omega
theorem lsubw {a b : Nat} (ha : a ≤ 12) (hb : b ≤ a) : wrap64 ((a : Int) - (b : Int)) = ((a - b : Nat) : Int) := by rw [wr (by omega) (by omega)]; omega
theorem laddw {k : Nat} (h : k ≤ 1000) : wrap64 ((k : Int) + 1) = ((k + 1 : Nat) : Int) := by rw [wr (by omega) (by omega)]; omega
theorem lxorcut (a b c : Nat) : (a ^^^ b) ^^^ (c ^^^ b) = a ^^^ c := by rw [xor4c, Nat.xor_self, Nat.xor_zero]
set_option maxHeartbeats 2000000 in
/-- one round on the right, as the program goes it -/
theorem right_step {M P : Nat} (h : validB (M : Int) (P : Int) = true) {qn rn an : List Nat} (hq : qn.length ≤ 12) (bq : ∀ y ∈ qn, y < 2 ^ M) (nq : 0 < qn.length) (lq : lst qn ≠ 0) (h2 : rn.length ≤ 12) (h3 : an.length ≤ 12) (br : ∀ y ∈ rn, y < 2 ^ M) (ba : ∀ y ∈ an, y < 2 ^ M) (hr : 0 < rn.length → lst rn ≠ 0) (c : qn.length ≤ rn.length) :
    ∃ zn bn : List Nat, zn.length < rn.length ∧ (∀ y ∈ zn, y < 2 ^ M) ∧ (0 < zn.length → lst zn ≠ 0) ∧ (bn.length ≤ an.length ∨ bn.length ≤ rn.length + 1 - qn.length) ∧ (∀ y ∈ bn, y < 2 ^ M) ∧ (0 < bn.length → lst bn ≠ 0) ∧
      impl_Field_divide.l0d (up qn) true (up an) (up rn) ((qn.length - 1 : Nat) : Int) (M : Int) (P : Int) = impl_Field_divide.l0d (up qn) true (up bn) (up zn) ((qn.length - 1 : Nat) : Int) (M : Int) (P : Int) ∧
      ∀ k, CM M P bn qn k ^^^ cf zn k = CM M P an qn k ^^^ cf rn k := by
  have hv := valid_bits h
  obtain ⟨k, hk⟩ : ∃ k, k = rn.length - qn.length := ⟨_, rfl⟩
  have g5 : k ≤ 1000 := by rw [hk]; exact Nat.le_trans (Nat.sub_le _ _) (Nat.le_trans h2 (by decide))
  have g0 : (rn.length : Int) ≥ (qn.length : Int) := by omega
  have g1 : ((rn.length - 1 : Nat) : Int) < (rn.length : Int) := by omega
  have g2 : ((qn.length - 1 : Nat) : Int) < (qn.length : Int) := by omega
  have g3 : k + 1 ≤ 35184372088832 := k13 g5
  have g4 : (k : Int) < ((List.replicate (k + 1) (0 : Int)).length : Int) := by simp; omega
  obtain ⟨s, hs⟩ : ∃ s, s = fsq M P (k % M) (lst qn) := ⟨_, rfl⟩
  obtain ⟨v, hvv⟩ : ∃ v, v = npow M P s (2 ^ M - 2) := ⟨_, rfl⟩
  obtain ⟨d, hd⟩ : ∃ d, d = fmul M P (lst rn) v := ⟨_, rfl⟩
  have nr : 0 < rn.length := by omega
  have hM : 0 < M := by omega
  have l1 := lst_lt nq bq
  have l2 := lst_lt nr br
  have l3 : s < 2 ^ M := by rw [hs]; exact fsq_lt h _ l1
  have l4 : v < 2 ^ M := by rw [hvv]; exact npow_lt h l3 _
  have l5 : d < 2 ^ M := by rw [hd]; exact fmul_lt h l2 _
  have sn : s ≠ 0 := by rw [hs]; exact ((inv_get h l1).2 (k % M) (Nat.mod_lt _ hM)).1 lq
  have e1 : fmul M P s v = 1 := by rw [fmul_comm h l3 l4, hvv]; exact (inv_get h l3).1 sn
  have e2 : fmul M P d s = lst rn := by rw [hd, fmul_assoc h l2 l4 l3, fmul_comm h l4 l3, e1, fmul_1 h l2]
  have tl := term_len d k
  obtain ⟨cn, zn, c1, c2, c3, c4, c5, c6, c7⟩ := cut_v h (rn := rn) (pn := term d k) (qn := qn) h2 (by omega) hq br (term_lt l5) bq (by omega) nq (by omega) (hr nr) (by rw [term_lst, tl, Nat.add_sub_cancel, ← hs, e2])
  obtain ⟨bn, b1, b2, b3, _, _, _⟩ := plus_both (M := M) (by omega) (xn := an) (yn := term d k) (by omega) (by omega) ba (term_lt l5)
  obtain ⟨cn', d1, d2, _⟩ := comp_cf h (pn := term d k) (qn := qn) (by omega) (by omega) (term_lt l5) bq
  obtain ⟨bn', f1, f2, f3⟩ := plus_cf (M := M) (by omega) (xn := an) (yn := term d k) (by omega) (by omega) ba (term_lt l5)
  obtain rfl : cn' = cn := up_inj (Option.some.inj (d1.symm.trans c1))
  obtain rfl : bn' = bn := up_inj (Option.some.inj (f1.symm.trans b3))
  have hcb := comp_both h (pn := term d k) (qn := qn) (by omega) (by omega) (term_lt l5) bq
  obtain ⟨cn2, k1, k2, k3, _⟩ := hcb
  obtain rfl : cn2 = cn' := up_inj (Option.some.inj (k3.symm.trans c1))
  obtain ⟨zn', m1, m2, _⟩ := plus_cf (M := M) (by omega) (xn := rn) (yn := cn2) (by omega) (by omega) br k2
  obtain rfl : zn' = zn := up_inj (Option.some.inj (m1.symm.trans c3))
  have wk : wrap64 ((rn.length : Int) - (qn.length : Int)) = (k : Int) := by rw [hk]; exact lsubw h2 c
  have wk1 : wrap64 ((k : Int) + 1) = ((k + 1 : Nat) : Int) := laddw g5
  have wr1 : wrap64 ((rn.length : Int) - 1) = ((rn.length - 1 : Nat) : Int) := len1 h2 nr
  refine ⟨zn', bn', c5, c6, c7, ?_, b2, f3, ?_, fun j => ?_⟩
  · clear wk wk1 wr1; omega
  · rw [impl_Field_divide.l0d_eq, up_length, up_length, if_pos g0, wk, wk1, Int.toNat_natCast, if_pos (Int.natCast_nonneg _), if_pos g3, bind_some', wr1, if_pos (Int.natCast_nonneg _), if_pos g1, if_pos rfl, if_pos (Int.natCast_nonneg _), if_pos g2,
      rd_lst nq, i_sq_v h k l1, bind_some', ← hs, i_inv_v h l3, bind_some', ← hvv, rd_lst nr, i_mul_v h l2 l4, bind_some', ← hd, if_pos (Int.natCast_nonneg _), if_pos g4, Int.toNat_natCast, i_term, bind_some', c1, bind_some', c3, bind_some', b3, bind_some']
  · clear wk wk1 wr1
    rw [m2, d2, rs_CM (by omega), show CM M P bn' qn j = CM M P an qn j ^^^ CM M P (term d k) qn j from rs_add1 f2 24 0]
    exact lxorcut _ _ _
theorem div_rl {M P : Nat} (h : validB (M : Int) (P : Int) = true) {qn : List Nat} (hq : qn.length ≤ 12) (bq : ∀ y ∈ qn, y < 2 ^ M) (nq : 0 < qn.length) (lq : lst qn ≠ 0) (N : Nat) (hN : N ≤ 8) :
    ∀ n, ∀ rn an : List Nat, rn.length ≤ n → rn.length ≤ 8 → an.length ≤ N → rn.length + 1 ≤ N + qn.length → (∀ y ∈ rn, y < 2 ^ M) → (∀ y ∈ an, y < 2 ^ M) → (0 < rn.length → lst rn ≠ 0) → (0 < an.length → lst an ≠ 0) →
      ∃ a' r' : List Nat, a'.length ≤ N ∧ (∀ y ∈ a', y < 2 ^ M) ∧ (∀ y ∈ r', y < 2 ^ M) ∧ r'.length < qn.length ∧ (0 < r'.length → lst r' ≠ 0) ∧ (0 < a'.length → lst a' ≠ 0) ∧ ∀ k, CM M P a' qn k ^^^ cf r' k = CM M P an qn k ^^^ cf rn k := by
  intro n
  induction n with
  | zero =>
    intro rn an h1 h2 h3 h4 br ba hr ha
    exact ⟨an, rn, h3, ba, br, by omega, hr, ha, fun _ => rfl⟩
  | succ n ih =>
    intro rn an h1 h2 h3 h4 br ba hr ha
    by_cases c : qn.length ≤ rn.length
    · obtain ⟨zn, bn, s1, s2, s3, s4, s5, s6, s7, s8⟩ := right_step h (rn := rn) (an := an) hq bq nq lq (by omega) (by omega) br ba hr c
      obtain ⟨a', r', t1, t2, t3, t4, t5, t6, t8⟩ := ih zn bn (by omega) (by omega) (by omega) (by omega) s2 s5 s3 s6
      exact ⟨a', r', t1, t2, t3, t4, t5, t6, fun k => by rw [t8, s8]⟩
    · exact ⟨an, rn, h3, ba, br, by omega, hr, ha, fun _ => rfl⟩
theorem cf_nil (k : Nat) : cf [] k = 0 := cf_out (by simp)
theorem FV_nil (M P x : Nat) : FV M P [] x = 0 := rfl
theorem FV_congr {M P : Nat} {a s : List Nat} (hs : ∀ k, cf s k = cf a k) (x : Nat) : FV M P s x = FV M P a x := by
  rw [FV_add (a := a) (b := []) (fun k => by rw [hs, cf_nil, Nat.xor_zero]) x, FV_nil, Nat.xor_zero]
theorem FV_one (M P c x : Nat) : FV M P [c] x = fmul M P c x := by
  show 0 ^^^ fmul M P c (fsq M P (0 % M) x) = _
  rw [Nat.zero_xor, Nat.zero_mod]; rfl
theorem FV_pair {M P : Nat} (h : validB (M : Int) (P : Int) = true) (a : Nat) {x : Nat} (hx : x < 2 ^ M) : FV M P [a, 1] x = fmul M P a x ^^^ fmul M P x x := by
  show (0 ^^^ fmul M P a (fsq M P (0 % M) x)) ^^^ fmul M P 1 (fsq M P (1 % M) x) = _
  rw [Nat.zero_xor, Nat.zero_mod, fsq_mod h hx 1, fmul_1l h (fsq_lt h 1 hx)]; rfl
theorem fmul_nz {M P : Nat} (h : validB (M : Int) (P : Int) = true) {c x : Nat} (hc : c < 2 ^ M) (hx : x < 2 ^ M) (c0 : c ≠ 0) (e : fmul M P c x = 0) : x = 0 := by
  have i := (inv_get h hc).1 c0
  have n := npow_lt h hc (2 ^ M - 2)
  have : fmul M P (fmul M P (npow M P c (2 ^ M - 2)) c) x = 0 := by rw [fmul_assoc h n hc hx, e, fmul_0r]
  rwa [i, fmul_1l h hx] at this
theorem pow_le {a b : Nat} (h : a ≤ b) : 2 ^ a ≤ 2 ^ b := Nat.pow_le_pow_right (by omega) h
theorem roots_le {M P : Nat} (h : validB (M : Int) (P : Int) = true) : ∀ (d : Nat) (p : List Nat), p.length = d + 1 → d ≤ 7 → lst p ≠ 0 → (∀ y ∈ p, y < 2 ^ M) → cnt (fun x => FV M P p x == 0) (2 ^ M) ≤ 2 ^ d := by
  intro d
  induction d using Nat.strongRecOn with
  | ind d0 ih =>
  cases d0 with
  | zero =>
    intro p hp _ hl hb
    match p, hp with
    | [c], _ =>
      have hc : c < 2 ^ M := hb c (by simp)
      have c0 : c ≠ 0 := hl
      exact cnt_one (x1 := 0) fun x hx hq => by
        rw [FV_one, beq_iff_eq] at hq
        exact fmul_nz h hc hx c0 hq
  | succ d =>
    intro p hp hd hl hb
    by_cases c : ∃ a, a < 2 ^ M ∧ a ≠ 0 ∧ FV M P p a = 0
    · obtain ⟨a, ha, a0, ea⟩ := c
      have o1 := one_lt h
      have bq : ∀ y ∈ [a, 1], y < 2 ^ M := by
        intro y hy
        rcases List.mem_cons.mp hy with e | e
        · rw [e]; exact ha
        · rw [List.mem_singleton.mp e]; exact o1
      obtain ⟨s, r, r1, r2, r3, r4, r5, r6, r7⟩ := div_rl h (qn := [a, 1]) (by simp) bq (by simp) (by show (1 : Nat) ≠ 0; decide) (d + 1) (by omega) p.length p [] (Nat.le_refl _) (by omega) (by simp) (by simp; omega) hb (by simp) (fun _ => hl) (by simp)
      obtain ⟨cn, c1, c2, _⟩ := comp_cf h (pn := s) (qn := [a, 1]) (by omega) (by simp) r2 bq
      obtain ⟨cn', d1, d2, d3, _⟩ := comp_both h (pn := s) (qn := [a, 1]) (by omega) (by simp) r2 bq
      obtain rfl : cn = cn' := up_inj (Option.some.inj (c1.symm.trans d3))
      have vp : ∀ x, x < 2 ^ M → FV M P p x = FV M P s (FV M P [a, 1] x) ^^^ FV M P r x := fun x hx => by
        have k1 : ∀ k, cf cn k = CM M P s [a, 1] k := fun k => by rw [c2, rs_CM (by omega)]
        rw [FV_add (a := cn) (b := r) (fun k => by rw [k1, r7, CM_nil, Nat.zero_xor]) x, FV_comp h r2 bq (by omega) (by simp) (by simp at d1; omega) k1 hx]
      have La : FV M P [a, 1] a = 0 := by rw [FV_pair h a ha, Nat.xor_self]
      have rz : r = [] := by
        have := vp a ha
        rw [ea, La, FV_0 h, Nat.zero_xor] at this
        match r, r4, r5, r3, this with
        | [], _, _, _, _ => rfl
        | [c], _, h5, h3, this =>
          rw [FV_one] at this
          have hc : c < 2 ^ M := h3 c (by simp)
          have cz : c ≠ 0 := h5 (by simp)
          exact absurd (fmul_nz h hc ha cz this.symm) a0
        | _ :: _ :: _, h4, _, _, _ => exfalso; simp at h4; omega
      subst rz
      have vq : ∀ x, x < 2 ^ M → FV M P p x = FV M P s (FV M P [a, 1] x) := fun x hx => by rw [vp x hx, FV_nil, Nat.xor_zero]
      have sn : 0 < s.length := by
        by_cases z : s.length = 0
        · exfalso
          have e : s = [] := List.eq_nil_of_length_eq_zero z
          have := r7 (d + 1)
          rw [e, CM_nil, cf_nil, Nat.xor_self, Nat.zero_xor] at this
          have l := cf_lst p
          rw [hp, Nat.add_sub_cancel, ← this] at l
          exact hl l.symm
        · omega
      have ls : cnt (fun x => FV M P s x == 0) (2 ^ M) ≤ 2 ^ d := by
        obtain ⟨e, he⟩ : ∃ e, s.length = e + 1 := ⟨s.length - 1, by omega⟩
        exact Nat.le_trans (ih e (by omega) s he (by omega) (r6 sn) r2) (pow_le (by omega))
      have Lx : ∀ x, x < 2 ^ M → FV M P [a, 1] x < 2 ^ M := fun x _ => FV_lt h bq x
      have two : ∀ v, cnt (fun x => FV M P [a, 1] x == v) (2 ^ M) ≤ 2 := fun v => by
        by_cases z : ∃ x1, x1 < 2 ^ M ∧ FV M P [a, 1] x1 = v
        · obtain ⟨x1, h1, e1⟩ := z
          exact cnt_two (x1 := x1) (x2 := x1 ^^^ a) fun x hx hq => by
            rw [beq_iff_eq] at hq
            have zx := Nat.xor_lt_two_pow hx h1
            have e : FV M P [a, 1] (x ^^^ x1) = 0 := by rw [FV_xor h hx h1, hq, e1, Nat.xor_self]
            rw [FV_pair h a zx, ← fmul_xor_l] at e
            by_cases y0 : a ^^^ (x ^^^ x1) = 0
            · right
              have t := congrArg (fun z => z ^^^ (x ^^^ x1)) y0
              have t' : a = x ^^^ x1 := by simpa [Nat.xor_assoc] using t
              rw [t', Nat.xor_comm x x1, ← Nat.xor_assoc, Nat.xor_self, Nat.zero_xor]
            · left
              have t := fmul_nz h (Nat.xor_lt_two_pow ha zx) zx y0 e
              have t2 := congrArg (fun z => z ^^^ x1) t
              simpa [Nat.xor_assoc] using t2
        · rw [cnt_none _ fun x hx => beq_eq_false_iff_ne.mpr fun e => z ⟨x, hx, e⟩]; omega
      have f := cnt_fib (g := fun y => FV M P s y == 0) (L := FV M P [a, 1]) (n := 2 ^ M) Lx two
      rw [cnt_congr (q := fun x => FV M P p x == 0) (q' := fun x => FV M P s (FV M P [a, 1] x) == 0) _ fun x hx => by rw [vq x hx]]
      rw [Nat.pow_succ]
      omega
    · have o : cnt (fun x => FV M P p x == 0) (2 ^ M) ≤ 1 := cnt_one (x1 := 0) fun x hx hq => by
        by_cases z : x = 0
        · exact z
        · exact absurd ⟨x, hx, z, beq_iff_eq.mp hq⟩ c
      have := Nat.two_pow_pos (d + 1)
      omega
theorem FV_term {M P : Nat} (c k x : Nat) : FV M P (term c k) x = fmul M P c (fsq M P (k % M) x) := by
  rw [FV_XS (n := k + 1) (by rw [term_len]; exact Nat.le_refl _)]
  show XS (ft M P (term c k) x) k ^^^ ft M P (term c k) x k = _
  have z : XS (ft M P (term c k) x) k = 0 := by
    rw [XS_congr (g := fun _ => 0) k fun j hj => by
      unfold ft term
      rw [cf_set (by simp), if_neg (by omega), cf_zeros, fmul_0l], XS_zero]
  rw [z, Nat.zero_xor]
  unfold ft term
  rw [cf_set (by simp), if_pos rfl]
theorem fold_v {M P : Nat} (h : validB (M : Int) (P : Int) = true) {pn : List Nat} (hl : pn.length ≤ 12) (hp : ∀ y ∈ pn, y < 2 ^ M) :
    ∃ rn : List Nat, rn.length ≤ M ∧ (∀ y ∈ rn, y < 2 ^ M) ∧ (0 < rn.length → lst rn ≠ 0) ∧ impl_Field_fold.d (M : Int) (P : Int) (up pn) = some (up rn) ∧ ∀ x, x < 2 ^ M → FV M P rn x = FV M P pn x := by
  have hv := valid_bits h
  have key : ∀ i, i ≤ pn.length → ∀ on : List Nat, on.length = M → (∀ y ∈ on, y < 2 ^ M) → (∀ x, x < 2 ^ M → FV M P on x = fval M P pn x i) → ∃ rn : List Nat, rn.length ≤ M ∧ (∀ y ∈ rn, y < 2 ^ M) ∧ (0 < rn.length → lst rn ≠ 0) ∧
      impl_Field_fold.l0d (up on) (up pn) ((up pn).length : Int) (i : Int) (M : Int) (P : Int) = some (up rn) ∧ ∀ x, x < 2 ^ M → FV M P rn x = FV M P pn x := by
    apply down (Q := fun i => ∀ on : List Nat, on.length = M → (∀ y ∈ on, y < 2 ^ M) → (∀ x, x < 2 ^ M → FV M P on x = fval M P pn x i) → ∃ rn : List Nat, rn.length ≤ M ∧ (∀ y ∈ rn, y < 2 ^ M) ∧ (0 < rn.length → lst rn ≠ 0) ∧
      impl_Field_fold.l0d (up on) (up pn) ((up pn).length : Int) (i : Int) (M : Int) (P : Int) = some (up rn) ∧ ∀ x, x < 2 ^ M → FV M P rn x = FV M P pn x)
    · intro on h1 h2 h3
      obtain ⟨rn, r1, r2, r3, _, r5, _, _⟩ := trim_top (by omega) h2
      obtain ⟨rn', t1, t2, _⟩ := trim_cf (ln := on) (by omega)
      obtain rfl : rn = rn' := up_inj (Option.some.inj (r3.symm.trans t1))
      exact ⟨rn, by omega, r2, r5, by rw [impl_Field_fold.l0d_eq, if_neg (by rw [up_length]; omega), r3, bind_some'], fun x hx => (FV_congr t2 x).trans (h3 x hx)⟩
    · intro i hi ih on h1 h2 h3
      have hm : i % M < on.length := by rw [h1]; exact Nat.mod_lt _ (by omega)
      have b1 := h2 _ (List.getElem_mem hm)
      have b2 := hp _ (List.getElem_mem hi)
      obtain ⟨rn, r1, r2, r3, r4, r5⟩ := ih (on.set (i % M) (on[i % M] ^^^ pn[i])) (by rw [List.length_set]; exact h1) (set_bound h2 (Nat.xor_lt_two_pow b1 b2)) (fun x hx => by
        rw [FV_add (a := on) (b := term pn[i] (i % M)) (fun k => by
          rw [cf_set hm]
          unfold term
          rw [cf_set (by simp), cf_zeros]
          by_cases c : k = i % M
          · rw [if_pos c, if_pos c, c, cf_get hm]
          · rw [if_neg c, if_neg c, Nat.xor_zero]) x, h3 x hx, FV_term, Nat.mod_mod]
        show _ = fval M P pn x i ^^^ fmul M P (pn.getD i 0) (fsq M P (i % M) x)
        have e : pn.getD i 0 = pn[i] := by simp [List.getD, hi]
        rw [e])
      refine ⟨rn, r1, r2, r3, ?_, r5⟩
      rw [impl_Field_fold.l0d_eq, if_pos (by rw [up_length]; omega), if_pos (by omega), if_pos (by rw [up_length]; omega), if_neg (by omega), tmod_nat, if_pos (by omega), if_pos (by rw [up_length]; omega), up_get hm, up_get hi, bxor (small62 (by omega) b1) (small62 (by omega) b2), Int.toNat_natCast, up_set, wrS hi (by omega), r4]
  obtain ⟨rn, r1, r2, r3, r4, r5⟩ := key 0 (Nat.zero_le _) (List.replicate M 0) (by simp) (zeros_bound (Nat.two_pow_pos M)) (fun x _ => by
    rw [FV_congr (a := []) (fun k => by rw [cf_zeros, cf_nil])]; rfl)
  refine ⟨rn, r1, r2, r3, ?_, r5⟩
  rw [impl_Field_fold.d_eq, if_pos (by omega), if_pos (by omega), Int.toNat_natCast, up_zeros]; exact r4
theorem idx_loop {l : List Int} {q : Int → Bool} {cl : Int → Option Bool} {F : Int → Option Int} (hl : l.length ≤ 1000) (hc : ∀ x ∈ l, cl x = some (q x))
    (hF : ∀ j, F j = if j < (l.length : Int) then (if 0 ≤ j then (if j < (l.length : Int) then ((cl (rd l j)).bind fun t => (if t = true then (some j) else (F (wrap64 (j + 1))))) else (none)) else (none)) else (some (-1))) :
    ∀ d j : Nat, j + d = l.length → (F (j : Int) = some (-1) ∧ ∀ x ∈ l.drop j, q x = false) ∨ ∃ (i : Nat) (hi : i < l.length), F (j : Int) = some (i : Int) ∧ j ≤ i ∧ (∀ x ∈ (l.take i).drop j, q x = false) ∧ q l[i] = true := by
  intro d
  induction d with
  | zero =>
    intro j hj
    refine .inl ⟨by rw [hF, if_neg (by omega)], ?_⟩
    rw [List.drop_eq_nil_of_le (by omega)]; simp
  | succ d ih =>
    intro j hj
    have jl : j < l.length := by omega
    have wj : wrap64 ((j : Int) + 1) = ((j + 1 : Nat) : Int) := wrS jl (by omega)
    have e : F (j : Int) = if q l[j] = true then some (j : Int) else F ((j + 1 : Nat) : Int) := by
      rw [hF, if_pos (by omega), if_pos (by omega), if_pos (by omega), rd_at l j jl, hc _ (List.getElem_mem jl), bind_some', wj]
    by_cases c : q l[j] = true
    · refine .inr ⟨j, jl, by rw [e, if_pos c], Nat.le_refl _, ?_, c⟩
      rw [List.drop_eq_nil_of_le (by simp; omega)]; simp
    · rw [if_neg c] at e
      have c' : q l[j] = false := Bool.eq_false_iff.mpr c
      rcases ih (j + 1) (by omega) with ⟨h1, h2⟩ | ⟨i, hi, h1, h2, h3, h4⟩
      · refine .inl ⟨by rw [e, h1], ?_⟩
        rw [List.drop_eq_getElem_cons jl]
        intro x hx
        rcases List.mem_cons.mp hx with rfl | hx
        · exact c'
        · exact h2 x hx
      · refine .inr ⟨i, hi, by rw [e, h1], by omega, ?_, h4⟩
        have jt : j < (l.take i).length := by simp; omega
        rw [List.drop_eq_getElem_cons jt]
        intro x hx
        rcases List.mem_cons.mp hx with rfl | hx
        · rw [List.getElem_take]; exact c'
        · exact h3 x hx
theorem del_loop {l : List Int} {q : Int → Bool} {cl : Int → Option Bool} {G : List Int → Int → Int → Option (List Int)} (hl : l.length ≤ 1000) (hc : ∀ x ∈ l, cl x = some (q x))
    (hG : ∀ xs i j, G xs i j = if j < (xs.length : Int) then (if 0 ≤ j then ((cl (rd xs j)).bind fun t => (if t = true then (G xs i (wrap64 (j + 1))) else (if 0 ≤ i then (if i < (xs.length : Int) then (G (xs.set (i : Int).toNat (rd xs j)) (wrap64 (i + 1)) (wrap64 (j + 1))) else (none)) else (none)))) else (none)) else (if 0 ≤ i then (if i ≤ (xs.length : Int) then (some ((clrEnd xs (i : Int).toNat).take (i : Int).toNat)) else (none)) else (none))) :
    ∀ d j : Nat, j + d = l.length → ∀ (xs : List Int) (i : Nat), xs.length = l.length → i ≤ j → xs.take i = (l.take j).filter (fun x => !q x) → xs.drop j = l.drop j → G xs (i : Int) (j : Int) = some (l.filter (fun x => !q x)) := by
  intro d
  induction d with
  | zero =>
    intro j hj xs i hx hi ht hd
    rw [hG, if_neg (by omega), if_pos (by omega), if_pos (by omega), Int.toNat_natCast]
    congr 1
    unfold clrEnd
    rw [List.take_append_of_le_length (by simp; omega), List.take_take, Nat.min_self, ht, List.take_of_length_le (show l.length ≤ j by omega)]
  | succ d ih =>
    intro j hj xs i hx hi ht hd
    have jl : j < l.length := by omega
    have jx : j < xs.length := by omega
    have e : xs[j] = l[j] := by
      have := congrArg (fun z => z[0]?) hd
      simpa [jl, jx] using this
    have r : rd xs (j : Int) = l[j] := by rw [rd_at xs j jx, e]
    have tk : l.take (j + 1) = l.take j ++ [l[j]] := List.take_succ_eq_append_getElem jl
    have dr : xs.drop (j + 1) = l.drop (j + 1) := by
      have := congrArg (fun z => z.drop 1) hd
      simpa [List.drop_drop] using this
    by_cases c : q l[j] = true
    · have wj : wrap64 ((j : Int) + 1) = ((j + 1 : Nat) : Int) := wrS jl (by omega)
      rw [hG, if_pos (by omega), if_pos (by omega), r, hc _ (List.getElem_mem jl), bind_some', wj, if_pos c]
      clear wj
      exact ih (j + 1) (by omega) xs i hx (by omega) (by rw [ht, tk, List.filter_append]; simp [c]) dr
    · have st : G xs (i : Int) (j : Int) = G (xs.set i l[j]) ((i + 1 : Nat) : Int) ((j + 1 : Nat) : Int) := by
        have il : i < l.length := by omega
        rw [hG, if_pos (by omega), if_pos (by omega), r, hc _ (List.getElem_mem jl), bind_some', if_neg c, if_pos (by omega), if_pos (by omega), Int.toNat_natCast, wrS jl (by omega), wrS il (by omega)]
      rw [st]
      refine ih (j + 1) (by omega) _ (i + 1) (by simp; omega) (by omega) ?_ ?_
      · rw [tk, List.filter_append, ← ht, List.take_succ_eq_append_getElem (by simp; omega), List.getElem_set_self, List.take_set_of_le (Nat.le_refl i)]
        simp [c]
      · rw [List.drop_set_of_lt (by omega)]; exact dr
theorem delete_gen {l : List Int} {q : Int → Bool} {cl : Int → Option Bool} {F : Int → Option Int} {G : List Int → Int → Int → Option (List Int)} (hl : l.length ≤ 1000) (hc : ∀ x ∈ l, cl x = some (q x))
    (hF : ∀ j, F j = if j < (l.length : Int) then (if 0 ≤ j then (if j < (l.length : Int) then ((cl (rd l j)).bind fun t => (if t = true then (some j) else (F (wrap64 (j + 1))))) else (none)) else (none)) else (some (-1)))
    (hG : ∀ xs i j, G xs i j = if j < (xs.length : Int) then (if 0 ≤ j then ((cl (rd xs j)).bind fun t => (if t = true then (G xs i (wrap64 (j + 1))) else (if 0 ≤ i then (if i < (xs.length : Int) then (G (xs.set (i : Int).toNat (rd xs j)) (wrap64 (i + 1)) (wrap64 (j + 1))) else (none)) else (none)))) else (none)) else (if 0 ≤ i then (if i ≤ (xs.length : Int) then (some ((clrEnd xs (i : Int).toNat).take (i : Int).toNat)) else (none)) else (none))) :
    ((F 0).bind fun t => (if t = (-1) then (some l) else (G l t (wrap64 (t + 1))))) = some (l.filter (fun x => !q x)) := by
  rcases idx_loop hl hc hF l.length 0 (by omega) with ⟨h1, h2⟩ | ⟨i, hi, h1, _, h3, h4⟩
  · have h1' : F 0 = some (-1) := h1
    rw [h1', bind_some', if_pos rfl]
    congr 1
    rw [List.filter_eq_self.mpr]
    intro x hx
    rw [h2 x (by simpa using hx)]; rfl
  · have h1' : F 0 = some (i : Int) := h1
    rw [h1', bind_some', if_neg (by omega), wrS hi (by omega)]
    refine del_loop hl hc hG (l.length - (i + 1)) (i + 1) (by omega) l i rfl (by omega) ?_ rfl
    have tk : l.take (i + 1) = l.take i ++ [l[i]] := List.take_succ_eq_append_getElem hi
    rw [tk, List.filter_append, List.filter_eq_self.mpr (by
      intro x hx
      rw [h3 x (by simpa using hx)]; rfl)]
    simp [h4]
theorem filt_up {n : Nat} {q' : Int → Bool} {q : Nat → Bool} (h : ∀ y, y < n → (!q' (y : Int)) = q y) : (up (List.range n)).filter (fun x => !q' x) = up ((List.range n).filter q) := by
  unfold up
  rw [List.filter_map]
  congr 1
  apply List.filter_congr
  intro x hx
  exact h x (List.mem_range.mp hx)
theorem i_all_v {M P : Nat} (h : validB (M : Int) (P : Int) = true) : impl_Field_all.d (M : Int) (P : Int) = some (up (List.range (2 ^ M))) := by
  have hv := valid_bits h
  have h5 : 2 ^ M ≤ 2 ^ 5 := Nat.pow_le_pow_right (by omega) hv.2.1
  have e : ((2 ^ M : Nat) : Int) = (2 : Int) ^ M := by simp
  rw [impl_Field_all.d_eq, i_count_v h, bind_some', Int.toNat_natCast, ← e]
  have key : ∀ i, i ≤ 2 ^ M → impl_Field_all.l0d (up (List.range i)) ((2 ^ M : Nat) : Int) (i : Int) = some (up (List.range (2 ^ M))) := by
    apply down
    · rw [impl_Field_all.l0d_eq, if_neg (by omega)]
    · intro i hi ih
      rw [impl_Field_all.l0d_eq, if_pos (by omega), if_pos (by rw [up_length, List.length_range]; omega), wrS hi (by omega), ← ih, List.range_succ, up_append]
      rfl
  exact key 0 (by omega)
def rootsN (M P : Nat) (pn : List Nat) : List Nat := (List.range (2 ^ M)).filter fun y => decide (fval M P pn y pn.length = 0)
theorem rootsN_len (M P : Nat) (pn : List Nat) : (rootsN M P pn).length ≤ 2 ^ M := by
  have := List.length_filter_le (fun y => decide (fval M P pn y pn.length = 0)) (List.range (2 ^ M))
  rw [List.length_range] at this
  exact this
theorem i_roots_v {M P : Nat} (h : validB (M : Int) (P : Int) = true) {pn : List Nat} (hl : pn.length ≤ 12) (hp : ∀ y ∈ pn, y < 2 ^ M) : slices_DeleteFunc_int64_int64_AT_impl_RootsOf_1.d (up (List.range (2 ^ M))) (M : Int) (P : Int) (up pn) = some (up (rootsN M P pn)) := by
  have hv := valid_bits h
  have h5 : 2 ^ M ≤ 2 ^ 5 := Nat.pow_le_pow_right (by omega) hv.2.1
  have cl : ∀ x ∈ up (List.range (2 ^ M)), impl_RootsOf_1.d x (M : Int) (P : Int) (up pn) = some (!(decide (fval M P pn x.toNat pn.length = 0))) := by
    intro x hx
    obtain ⟨y, hy, rfl⟩ := List.mem_map.mp hx
    rw [impl_RootsOf_1.d_eq, i_value_v h (by omega) hp (List.mem_range.mp hy), bind_some', Int.toNat_natCast]
    congr 1
    by_cases z : fval M P pn y pn.length = 0
    · simp [z]
    · simp only [decide_eq_false z, Bool.not_false, bne_iff_ne, ne_eq]; omega
  have d := delete_gen (F := fun j => slices_IndexFunc_int64_int64_AT_impl_RootsOf_1.l0d (up (List.range (2 ^ M))) ((up (List.range (2 ^ M))).length : Int) j (M : Int) (P : Int) (up pn)) (G := fun xs i j => slices_DeleteFunc_int64_int64_AT_impl_RootsOf_1.l0d xs i j (M : Int) (P : Int) (up pn))
    (by rw [up_length, List.length_range]; omega) cl (fun j => slices_IndexFunc_int64_int64_AT_impl_RootsOf_1.l0d_eq _ _ _ _ _ _) (fun xs i j => slices_DeleteFunc_int64_int64_AT_impl_RootsOf_1.l0d_eq _ _ _ _ _ _)
  rw [filt_up (q := fun y => decide (fval M P pn y pn.length = 0)) (by intro y hy; simp)] at d
  rw [slices_DeleteFunc_int64_int64_AT_impl_RootsOf_1.d_eq, slices_IndexFunc_int64_int64_AT_impl_RootsOf_1.d_eq]
  exact d
theorem elN_v {l : List Int} (hb : Bytes l) (hl : l.length ≤ 3000) {M Q : Nat} (h : validB (M : Int) (Q : Int) = true) {n : Nat} (hn : n ≤ 20) : ∃ a : Nat, a < 2 ^ M ∧ spec_A2Element.d l (M : Int) (Q : Int) (n : Int) = some (a : Int) := by
  have p5 : 2 ^ M ≤ 2 ^ 5 := Nat.pow_le_pow_right (by omega) (valid_bits h).2.1
  have p1 := Nat.two_pow_pos M
  have key : ∀ d i : Nat, i + d = n + 1 → ∀ (v : Nat) (b t : Int), v < 2 ^ M → 0 ≤ b → b ≤ 2 * (i : Int) → ∃ a : Nat, a < 2 ^ M ∧ spec_A2Element.l0d (n : Int) (v : Int) (i : Int) (M : Int) (Q : Int) l b t = some (a : Int) := by
    intro d
    induction d with
    | zero =>
      intro i hi v b t hv _ _
      exact ⟨v, hv, by rw [spec_A2Element.l0d_eq, if_neg (by omega)]⟩
    | succ d ih =>
      intro i hi v b t hv h0 h1
      obtain ⟨w, b2, t2, e, w0, w1, _, g, g'⟩ := pick_v hb (Nat.le_trans hl (by decide)) (a := b) h0 (by omega) t ((2 ^ M : Nat) : Int) (by omega)
      obtain ⟨W, rfl⟩ : ∃ W : Nat, w = (W : Int) := ⟨w.toNat, by omega⟩
      have hW : W < 2 ^ M := by have := w1 (by omega); omega
      obtain ⟨a, ha, e2⟩ := ih (i + 1) (by omega) W b2 t2 hW (by omega) (by omega)
      exact ⟨a, ha, by rw [spec_A2Element.l0d_eq, if_pos (by omega), size_nat h, bind_some', e, bind_some', wrS (show i < n + 1 by omega) (by omega)]; exact e2⟩
  obtain ⟨a, ha, e⟩ := key (n + 1) 0 (by omega) 0 0 0 p1 (Int.le_refl 0) (by omega)
  refine ⟨a, ha, ?_⟩
  rw [spec_A2Element.d_eq]
  unfold spec_l00From.f
  rw [bind_some']
  exact e
theorem valueOf_v {M P : Nat} (h : validB (M : Int) (P : Int) = true) {p : List Nat} (lp : p.length ≤ 12) (bp : ∀ y ∈ p, y < 2 ^ M) (zp : 0 < p.length → lst p ≠ 0) {x : Nat} (hx : x < 2 ^ M) : impl_ValueOf.d (M : Int) (P : Int) (up p) (x : Int) = some (((FV M P p x : Nat) : Int), 0) := by
  have c : (validB (M : Int) (P : Int) && linB (M : Int) (up p)) = true := by rw [h, lin_of lp bp zp]; rfl
  have e : ([(x : Int)] : List Int).all (elemB (M : Int)) = true := by simp [elemB_nat2 hx]
  rw [impl_ValueOf.d_eq, i_linearCode_v _ _ (by rw [up_length]; omega), if_pos c, bind_some', if_pos rfl, i_has_v h _ (by simp), e, bind_some', impl_ValueOf.j0d_eq, if_neg (by decide), if_pos rfl, i_value_v h (by omega) bp hx, bind_some']
  rfl
theorem a2Has_v (l : List Nat) (hl : l.length ≤ 1000) (x : Nat) : laws_a2Has.d (up l) (x : Int) = some (decide (x ∈ l)) := by
  have key : ∀ i : Nat, i ≤ l.length → laws_a2Has.l0d (up l) (x : Int) (i : Int) = some (decide (x ∈ l.drop i)) := by
    apply down
    · rw [laws_a2Has.l0d_eq, if_neg (by rw [up_length]; omega), List.drop_length]; simp
    · intro i hi ih
      rw [laws_a2Has.l0d_eq, if_pos (by rw [up_length]; omega), if_pos (Int.natCast_nonneg i), up_get hi, wrS hi (by omega), ih, List.drop_eq_getElem_cons hi]
      by_cases c : l[i] = x
      · rw [if_pos (by omega)]; simp [c]
      · rw [if_neg (by omega)]
        congr 1
        apply decide_eq_decide.mpr
        constructor
        · intro z; exact List.mem_cons_of_mem _ z
        · intro z
          rcases List.mem_cons.mp z with e | e
          · exact absurd e.symm c
          · exact e
  rw [laws_a2Has.d_eq]
  exact key 0 (Nat.zero_le _)
theorem rootsOf_v {M P : Nat} (h : validB (M : Int) (P : Int) = true) {p : List Nat} (lp : p.length ≤ 12) (bp : ∀ y ∈ p, y < 2 ^ M) (zp : 0 < p.length → lst p ≠ 0) : impl_RootsOf.d (M : Int) (P : Int) (up p) = some (up (rootsN M P p), 0) := by
  have c : (validB (M : Int) (P : Int) && linB (M : Int) (up p)) = true := by rw [h, lin_of lp bp zp]; rfl
  rw [impl_RootsOf.d_eq, i_linearCode_v _ _ (by rw [up_length]; omega), if_pos c, bind_some', if_pos rfl, i_all_v h, bind_some', i_roots_v h lp bp, bind_some']
theorem rank_v {M P : Nat} (h : validB (M : Int) (P : Int) = true) {p : List Nat} (lp : p.length ≤ 12) (bp : ∀ y ∈ p, y < 2 ^ M) (zp : 0 < p.length → lst p ≠ 0) :
    ∃ R C : List Nat, RED R C ∧ (∀ v, Sp R v ↔ Sp ((List.range M).map fun i => FV M P p (2 ^ i)) v) ∧ R.length ≤ M ∧ impl_RankOfLinear.d (M : Int) (P : Int) (up p) = some ((R.length : Int), 0) := by
  have hv := valid_bits h
  have c : (validB (M : Int) (P : Int) && linB (M : Int) (up p)) = true := by rw [h, lin_of lp bp zp]; rfl
  have ub : ∀ y ∈ (List.range M).map fun i => 2 ^ i, y < 2 ^ M := by
    intro y hy
    obtain ⟨i, hi, rfl⟩ := List.mem_map.mp hy
    exact Nat.pow_lt_pow_right (by omega) (List.mem_range.mp hi)
  have vb : ∀ y ∈ ((List.range M).map fun i => FV M P p (2 ^ i)), y < 2 ^ M := by
    intro y hy
    obtain ⟨i, _, rfl⟩ := List.mem_map.mp hy
    exact FV_lt h bp _
  obtain ⟨R, C, e2, hR, hs⟩ := i_ech_v (N := M) (by omega) (ln := (List.range M).map fun i => FV M P p (2 ^ i)) (by rw [List.length_map, List.length_range]; omega) vb
  have lR : R.length ≤ M := by
    have : ¬ ((List.range M).map fun i => FV M P p (2 ^ i)).length < R.length := fun z => hR.nodep (exch _ R (fun r hr => (hs r).mp (Sp.mem hr)) z)
    rw [List.length_map, List.length_range] at this
    omega
  refine ⟨R, C, hR, hs, lR, ?_⟩
  rw [impl_RankOfLinear.d_eq, i_linearCode_v _ _ (by rw [up_length]; omega), if_pos c, bind_some', if_pos rfl, i_units_v hv.2.1, bind_some', i_values_v h (by omega) bp (by rw [List.length_map, List.length_range]; omega) ub, bind_some', List.map_map]
  show ((impl_echelon.d (up ((List.range M).map fun i => FV M P p (2 ^ i)))).bind _) = _
  rw [e2, bind_some']
  unfold impl_size_int64.f
  rw [bind_some', up_length]
theorem rootsN_cnt (M P : Nat) (p : List Nat) : (rootsN M P p).length = cnt (fun x => FV M P p x == 0) (2 ^ M) := by
  unfold rootsN
  rw [cnt_filter]
  exact cnt_congr _ fun x _ => by
    show decide (FV M P p x = 0) = _
    by_cases c : FV M P p x = 0 <;> simp [c]
theorem FnLin_j1 {M P : Nat} (h : validB (M : Int) (P : Int) = true) {p q s c t : List Nat} (lp : p.length ≤ 5) (bp : ∀ y ∈ p, y < 2 ^ M) (zp : 0 < p.length → lst p ≠ 0) (lq : q.length ≤ 5) (bq : ∀ y ∈ q, y < 2 ^ M)
    (ls : s.length ≤ 12) (bs : ∀ y ∈ s, y < 2 ^ M) (zs : 0 < s.length → lst s ≠ 0) (es : ∀ k, cf s k = cf p k ^^^ cf q k) (lc : c.length ≤ 12) (bc : ∀ y ∈ c, y < 2 ^ M) (zc : 0 < c.length → lst c ≠ 0) (ec : ∀ k, cf c k = CM M P p q k)
    (lt : t.length ≤ M) (bt : ∀ y ∈ t, y < 2 ^ M) (zt : 0 < t.length → lst t ≠ 0) (et : ∀ x, x < 2 ^ M → FV M P t x = FV M P p x) {x : Nat} (hx : x < 2 ^ M) :
    laws_FnLinearMaps.j1d ((2 ^ M : Nat) : Int) (up p) (x : Int) ((FV M P p x : Nat) : Int) ((FV M P q x : Nat) : Int) (up s) (up c) (up t) false (M : Int) (P : Int) = some true := by
  have hv := valid_bits h
  have p5 : 2 ^ M ≤ 2 ^ 5 := Nat.pow_le_pow_right (by omega) hv.2.1
  have fp := FV_lt h bp x
  have fq := FV_lt h bq x
  obtain ⟨R, C, hR, hs, lR, eR⟩ := rank_v h (p := p) (by omega) bp zp
  have cr := count_rank (M := M) (f := FV M P p) (fun a b ha hb => FV_xor h ha hb) hR hs
  rw [← rootsN_cnt] at cr
  have u1 : IntKind.u64.wrap (R.length : Int) = (R.length : Int) := u64_id (by omega) (by omega)
  have e1 : (((up (rootsN M P p)).length : Nat) : Int) = shr .i64 ((2 ^ M : Nat) : Int) (R.length : Int) := by
    rw [shr_nat (by omega), up_length, Nat.shiftRight_eq_div_pow]
    congr 1
    exact (Nat.div_eq_of_eq_mul_left (Nat.two_pow_pos _) cr.symm).symm
  have x1 : Go.bits .xor .i64 ((FV M P p x : Nat) : Int) ((FV M P q x : Nat) : Int) = ((FV M P p x ^^^ FV M P q x : Nat) : Int) := bxor (small62 (by omega) fp) (small62 (by omega) fq)
  have lr := rootsN_len M P p
  have hasx : (decide (x ∈ rootsN M P p) == (((FV M P p x : Nat) : Int) == 0)) = true := by
    have m : x ∈ rootsN M P p ↔ FV M P p x = 0 := by
      unfold rootsN
      rw [List.mem_filter, List.mem_range, decide_eq_true_eq]
      exact ⟨fun z => z.2, fun z => ⟨hx, z⟩⟩
    by_cases z : FV M P p x = 0
    · rw [decide_eq_true (m.mpr z), z]; rfl
    · have z' : ¬ ((FV M P p x : Nat) : Int) = 0 := by omega
      rw [decide_eq_false (fun y => z (m.mp y)), beq_eq_false_iff_ne.mpr z']; rfl
  rw [laws_FnLinearMaps.j1d_eq, if_neg Bool.false_ne_true, valueOf_v h ls bs zs hx, bind_some', valueOf_v h lc bc zc hx, bind_some', valueOf_v h (by omega) bp zp fq, bind_some', valueOf_v h (by omega) bt zt hx, bind_some', rootsOf_v h (by omega) bp zp, bind_some', eR, bind_some',
    if_pos rfl, if_pos rfl, if_pos rfl, if_pos rfl, if_pos rfl, if_pos rfl, x1, FV_add es x, if_pos rfl, FV_comp h bp bq (by omega) (by omega) (by omega) ec hx, if_pos rfl, et x hx, if_pos rfl]
  have n1 : ¬ (R.length : Int) < 0 := by omega
  have n2 : ¬ (R.length : Int) > (M : Int) := by omega
  show (if (R.length : Int) < 0 then _ else _) = _
  rw [if_neg n1]
  show (if (R.length : Int) > (M : Int) then _ else _) = _
  rw [if_neg n2]
  show (if 0 ≤ IntKind.u64.wrap (R.length : Int) then _ else _) = _
  rw [u1, if_pos (Int.natCast_nonneg _)]
  show (if (((up (rootsN M P p)).length : Nat) : Int) = shr .i64 ((2 ^ M : Nat) : Int) (R.length : Int) then _ else _) = _
  rw [if_pos e1]
  show ((laws_a2Has.d (up (rootsN M P p)) (x : Int)).bind _) = _
  rw [a2Has_v _ (by omega) x, bind_some', if_pos hasx]
  by_cases z : p.length = 0
  · rw [if_pos (by rw [up_length]; omega)]
  · have w : wrap64 (((up p).length : Int) - 1) = ((p.length - 1 : Nat) : Int) := by rw [up_length, wr (by omega) (by omega)]; omega
    have u : IntKind.u64.wrap ((p.length - 1 : Nat) : Int) = ((p.length - 1 : Nat) : Int) := u64_id (by clear w; omega) (by clear w; omega)
    have bound := roots_le h (p.length - 1) p (by clear w; omega) (by clear w; omega) (zp (by clear w; omega)) bp
    rw [← rootsN_cnt] at bound
    rw [if_neg (by rw [up_length]; clear w; omega), w, u, if_pos (Int.natCast_nonneg _), shl_one (by clear w; omega)]
    congr 1
    apply decide_eq_true
    show (((up (rootsN M P p)).length : Nat) : Int) ≤ _
    rw [up_length]
    exact Int.ofNat_le.mpr bound
theorem FnLin_j0 {M P : Nat} (h : validB (M : Int) (P : Int) = true) {p q : List Nat} (lp : p.length ≤ 5) (bp : ∀ y ∈ p, y < 2 ^ M) (zp : 0 < p.length → lst p ≠ 0) (lq : q.length ≤ 5) (bq : ∀ y ∈ q, y < 2 ^ M) (zq : 0 < q.length → lst q ≠ 0) {x : Nat} (hx : x < 2 ^ M) :
    laws_FnLinearMaps.j0d ((2 ^ M : Nat) : Int) (up p) (up q) (x : Int) ((FV M P p x : Nat) : Int) ((FV M P q x : Nat) : Int) false (M : Int) (P : Int) = some true := by
  have hv := valid_bits h
  obtain ⟨s, s1, s2, s3, s4, s5⟩ := sumL_v h (a := p) (b := q) (by omega) (by omega) bp bq zp zq
  obtain ⟨c, c1, c2, c3, c4, c5⟩ := compL_v h (a := p) (b := q) (by omega) (by omega) (by omega) bp bq zp zq
  obtain ⟨t, t1, t2, t3, t4, t5⟩ := fold_v h (pn := p) (by omega) bp
  have cl : (validB (M : Int) (P : Int) && linB (M : Int) (up p)) = true := by rw [h, lin_of (by omega) bp zp]; rfl
  have fl : impl_FoldLinear.d (M : Int) (P : Int) (up p) = some (up t, 0) := by
    rw [impl_FoldLinear.d_eq, i_linearCode_v _ _ (by rw [up_length]; omega), if_pos cl, bind_some', if_pos rfl, t4, bind_some']
  have tl : decide (((up t).length : Int) > (M : Int)) = false := decide_eq_false (by rw [up_length]; omega)
  rw [laws_FnLinearMaps.j0d_eq, if_neg Bool.false_ne_true, s1, bind_some', c1, bind_some', fl, bind_some', if_pos rfl, if_pos rfl, if_pos rfl, vlin_v h s2 s3 s4, bind_some', if_pos rfl, vlin_v h c2 c3 c4, bind_some', if_pos rfl, vlin_v h (by omega) t2 t3, bind_some', if_pos rfl]
  show laws_FnLinearMaps.j1d ((2 ^ M : Nat) : Int) (up p) (x : Int) _ _ (up s) (up c) (up t) (decide (((up t).length : Int) > (M : Int))) (M : Int) (P : Int) = some true
  rw [tl]
  exact FnLin_j1 h lp bp zp lq bq s2 s3 s4 s5 c2 c3 c4 c5 t1 t2 t3 t5 hx
theorem FnLinearMaps_law (l0 l1 : List Int) (h1 : ∀ x ∈ l0, (Lit.int .u8 x).wf = true) (h3 : ∀ x ∈ l1, (Lit.int .u8 x).wf = true) : laws_FnLinearMaps.d l0 l1 = some true := by
  by_cases c : ¬ (l0.length ≤ 3000 ∧ l1.length ≤ 3000)
  · rw [laws_FnLinearMaps.d_eq, long_v c, bind_some', if_pos rfl]
  · obtain ⟨c0, c1⟩ := Classical.not_not.mp c
    have b0 := bytes_of h1
    have b1 := bytes_of h3
    obtain ⟨M, Q, eF, h⟩ := field_v b0 c0
    have hv := valid_bits h
    have p5 : 2 ^ M ≤ 2 ^ 5 := Nat.pow_le_pow_right (by omega) hv.2.1
    obtain ⟨p, lp, bp, zp, ep⟩ := drawnlin_v b1 (by omega) h (n := 5) (by omega)
    have b5 : Bytes ([5] ++ l1) := by
      intro x hx
      rcases List.mem_append.mp hx with z | z
      · simp at z; omega
      · exact b1 x z
    obtain ⟨q, lq, bq, zq, eq⟩ := drawnlin_v b5 (by simp; omega) h (n := 5) (by omega)
    obtain ⟨x, hx, ex⟩ := elN_v b0 c0 h (n := 3) (by omega)
    obtain ⟨y, hy, ey⟩ := elN_v b0 c0 h (n := 4) (by omega)
    have g : ([5] : List Int).length + l1.length < 140737488355328 := by simp; omega
    have ep' : spec_A2Linear.d l1 (M : Int) (Q : Int) 5 = some (up p) := ep
    have eq' : spec_A2Linear.d ([5] ++ l1) (M : Int) (Q : Int) 5 = some (up q) := eq
    have ex' : spec_A2Element.d l0 (M : Int) (Q : Int) 3 = some (x : Int) := ex
    have ey' : spec_A2Element.d l0 (M : Int) (Q : Int) 4 = some (y : Int) := ey
    have uM : IntKind.u64.wrap (M : Int) = (M : Int) := u64_id (by omega) (by omega)
    have xy : Go.bits .xor .i64 (x : Int) (y : Int) = ((x ^^^ y : Nat) : Int) := bxor (small62 (by omega) hx) (small62 (by omega) hy)
    have hxy := Nat.xor_lt_two_pow hx hy
    have fx := FV_lt h bp x
    have fy := FV_lt h bp y
    have fq := FV_lt h bq x
    have x2 : Go.bits .xor .i64 ((FV M Q p x : Nat) : Int) ((FV M Q p y : Nat) : Int) = ((FV M Q p x ^^^ FV M Q p y : Nat) : Int) := bxor (small62 (by omega) fx) (small62 (by omega) fy)
    have sM : shl .i64 1 (M : Int) = ((2 ^ M : Nat) : Int) := shl_one (by omega)
    rw [laws_FnLinearMaps.d_eq, short_v c0 c1, bind_some', if_neg Bool.false_ne_true, eF, bind_some']
    show (if 0 ≤ IntKind.u64.wrap (M : Int) then _ else _) = _
    rw [uM, if_pos (Int.natCast_nonneg _), ep', bind_some', bind_some', if_pos g, eq', bind_some', ex', bind_some', ey', bind_some', valueOf_v h (by omega) bp zp hx, bind_some', valueOf_v h (by omega) bp zp hy, bind_some', xy, valueOf_v h (by omega) bp zp hxy, bind_some', valueOf_v h (by omega) bq zq hx, bind_some',
      if_pos rfl, if_pos rfl, if_pos rfl, if_pos rfl, x2, FV_xor h hx hy, if_pos rfl, sM]
    have n1 : ¬ ((FV M Q q x : Nat) : Int) < 0 := by omega
    have n2 : decide (((FV M Q q x : Nat) : Int) ≥ ((2 ^ M : Nat) : Int)) = false := decide_eq_false (by omega)
    show (if ((FV M Q q x : Nat) : Int) < 0 then _ else laws_FnLinearMaps.j0d ((2 ^ M : Nat) : Int) (up p) (up q) (x : Int) ((FV M Q p x : Nat) : Int) ((FV M Q q x : Nat) : Int) (decide (((FV M Q q x : Nat) : Int) ≥ ((2 ^ M : Nat) : Int))) (M : Int) (Q : Int)) = some true
    rw [if_neg n1, n2]
    exact FnLin_j0 h lp bp zp lq bq zq hx
/-- The one pure statement of laws_FnLinearMaps. -/
def laws_FnLinearMaps.Pure : Prop := ∀ (l0 : List Int) (l1 : List Int), (l0.length ≤ maxLen) → (∀ x ∈ l0, (Lit.int .u8 x).wf = true) → (l1.length ≤ maxLen) → (∀ x ∈ l1, (Lit.int .u8 x).wf = true) → ∃ k, laws_FnLinearMaps.f k l0 l1 = some true
end Go.Proofs.Ytkhjoomjjdgkjaa.P
end
section
namespace Go.Proofs.Ytkhjoomjjdgkjaa.Pure
set_option linter.unusedVariables false
set_option linter.unusedSimpArgs false
theorem FnLinearMaps : P.laws_FnLinearMaps.Pure := fun l0 l1 _ h1_ _ h3_ => P.IsLim.some_ (P.laws_FnLinearMaps.lim l0 l1) (P.FnLinearMaps_law l0 l1 h1_ h3_)
end Go.Proofs.Ytkhjoomjjdgkjaa.Pure
end
