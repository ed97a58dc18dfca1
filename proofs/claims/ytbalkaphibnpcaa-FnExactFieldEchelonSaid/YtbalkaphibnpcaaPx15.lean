/- Functions of the program and what they tell, as the printing program wrote it. -/
import Derived.Test.YtbalkaphibnpcaaPx0
import Derived.Test.YtbalkaphibnpcaaPx2
import Derived.Test.YtbalkaphibnpcaaPx13
import Derived.Test.YtbalkaphibnpcaaPx14
namespace Go.Proofs.Ytbalkaphibnpcaa.P
open Go.Shelf Go.RowKit Go.Proofs.YtbalkaphibnpcaaW.PrintWords Go.Proofs.YtbalkaphibnpcaaW.PrintLast Go.Proofs.YtbalkaphibnpcaaW.PrintMore
attribute [local go_sem] max2_int min2_int max_two min_two max_three min_three max_four min_four
set_option linter.unusedVariables false
set_option linter.unusedSimpArgs false
set_option maxHeartbeats 8000000
set_option maxRecDepth 100000
abbrev RowsS (W : World) (b : Nat) (P : Nat → Prop) (g n c : Nat) (l : List (List Int)) : Prop := Kd.S (Kd.slice 2 (Kd.int .i64)) 38 W b P (.slice (some ⟨g, 0, none⟩) n c) l
abbrev RowsH (W : World) (b : Nat) (P : Nat → Prop) (g n c : Nat) (l : List (List Int)) (i : Int) (oki : Nat → Prop) (v : Value) : Prop := Kd.H (Kd.slice 2 (Kd.int .i64)) 38 W b P (.slice (some ⟨g, 0, none⟩) n c) l i oki [v]
theorem rows_cell {W : World} {b g n c : Nat} {P : Nat → Prop} {l : List (List Int)} (h : RowsS W b P g n c l) {i : Int} (h0 : 0 ≤ i) (h1 : i < n) :
 ∃ A c1, W.cell? ⟨g, i.toNat, none⟩ = some (.slice A (rd_L1 l i).length c1) ∧ (rd_L1 l i).length ≤ c1 ∧ (Kd.int .i64).C W A (rd_L1 l i).length (rd_L1 l i) := by
 have hn := (Kd.S_reads' h).1
 obtain ⟨ad, A, c1, e, hx, hl, hi⟩ := at_L1 (Kd.S_reads' h).2.2 i h0 (by omega)
 cases e
 rw [add_plain] at hx
 exact ⟨A, c1, hx, hl, hi⟩
theorem rows_frozen {W : World} {b g n c : Nat} {P : Nat → Prop} {l : List (List Int)} (h : RowsS W b P g n c l) (hp : 0 < l.length) (j : Nat) : W.frozen? ⟨g, j, none⟩ = false := by
 obtain ⟨g', cap, e, _, _, cells, hc⟩ := Kd.S_form h hp
 injection e with e1 _ _
 injection e1 with e1
 injection e1 with e1
 subst e1
 exact kQF hc _
theorem rows_lend {W : World} {b g n c : Nat} {P : Nat → Prop} {l : List (List Int)} (h : RowsS W b P g n c l) {i : Int} (h0 : 0 ≤ i) (h1 : i < n) {v : Value} (hc : W.cell? ⟨g, i.toNat, none⟩ = some v) :
 ∃ oki : Nat → Prop, Kd.R (Kd.int .i64) 2 W b oki v (rd_L1 l i) ∧ RowsH W b P g n c l i oki v ∧ ∀ k, oki k → P k ∧ k ≠ g := by
 obtain ⟨oki, cs, _, hM, hcc, hok, hH⟩ := Kd.S_lend h ([] : List Int) i h0 h1
 obtain ⟨v', rfl, hR⟩ := hM
 have hc0 : W.cell? ⟨g, i.toNat * 1 + 0, none⟩ = some v' := hcc 0 _ rfl
 rw [Nat.mul_one, Nat.add_zero, hc] at hc0
 injection hc0 with hc0
 subst hc0
 exact ⟨oki, hR, hH, hok⟩
theorem rows_other {W : World} {b g n c : Nat} {P oki : Nat → Prop} {l : List (List Int)} {i j : Int} {v vj : Value} (h : RowsH W b P g n c l i oki v) (hi0 : 0 ≤ i) (h0 : 0 ≤ j) (h1 : j < n) (hne : j ≠ i) (hc : W.cell? ⟨g, j.toNat, none⟩ = some vj) :
 ∃ okj : Nat → Prop, Kd.R (Kd.int .i64) 2 W b okj vj (rd_L1 l j) ∧ ∀ k, okj k → P k ∧ ¬ oki k ∧ k ≠ g := by
 obtain ⟨ho, f, hR⟩ := h
 have hn := (Kd.R_reads' hR).1
 rw [List.length_zipIdx] at hn
 obtain ⟨hok0, inner, hown, hr⟩ := hR
 have hjl : j.toNat < l.length := by omega
 have hlen : inner.length = l.length * 1 := by have := hr.1; rw [List.length_zipIdx] at this; exact this
 have hM := (hr.2 j.toNat _ (Kd.zip_at (List.getElem?_eq_getElem hjl))).2 (show j.toNat ≠ i.toNat by omega)
 obtain ⟨v', hv, hR'⟩ := hM
 have hin : inner[j.toNat]? = some v' := by
  have h2 : (List.take 1 (List.drop (j.toNat * 1) inner)) = [v'] := hv
  have h3 : (List.take 1 (List.drop (j.toNat * 1) inner))[0]? = some v' := by rw [h2]; rfl
  rw [List.getElem?_take, if_pos (by omega), List.getElem?_drop, Nat.mul_one, Nat.add_zero] at h3
  exact h3
 have hcell := hown.cells (g := g) (by simp [Value.ownBlock]) _ _ hin
 rw [add_plain, hc] at hcell
 injection hcell with hcell
 subst hcell
 have e1 : l[j.toNat] = rd_L1 l j := by simp [rd_L1, List.getD, hjl]
 exact ⟨fun k => ((P k ∧ ¬ oki k) ∧ some k ≠ (Value.slice (some ⟨g, 0, none⟩) n c).ownBlock) ∧ f k = j.toNat, by rw [← e1]; exact hR', fun k hk => ⟨hk.1.1.1, hk.1.1.2, fun he => hk.1.2 (by rw [he]; simp [Value.ownBlock])⟩⟩
theorem rows_back {W : World} {b g n c : Nat} {P oki : Nat → Prop} {l : List (List Int)} {i : Int} {v : Value} {r : List Int} (h : RowsH W b P g n c l i oki v) (hR : Kd.R (Kd.int .i64) 2 W b oki v r) : RowsS W b P g n c (l.set i.toNat r) :=
 Kd.H_back h ⟨v, rfl, hR⟩ (fun _ hk => hk)
def swpR (l : List (List Int)) (i j : Int) : List (List Int) := (l.set i.toNat (rd_L1 l j)).set j.toNat (rd_L1 l i)
theorem swpR_length (l : List (List Int)) (i j : Int) : (swpR l i j).length = l.length := by simp [swpR]
theorem rows_swap {W : World} {b g n c : Nat} {P : Nat → Prop} {l : List (List Int)} (h : RowsS W b P g n c l) {i j : Int} (i0 : 0 ≤ i) (i1 : i < n) (j0 : 0 ≤ j) (j1 : j < n) {vi vj : Value}
 (hi : W.cell? ⟨g, i.toNat, none⟩ = some vi) (hj : W.cell? ⟨g, j.toNat, none⟩ = some vj) :
 RowsS ((W.setCell ⟨g, i.toNat, none⟩ vj).setCell ⟨g, j.toNat, none⟩ vi) b P g n c (swpR l i j) ∧ W.grownBy ((W.setCell ⟨g, i.toNat, none⟩ vj).setCell ⟨g, j.toNat, none⟩ vi) (some g) ∧
  (W.setCell ⟨g, i.toNat, none⟩ vj).cell? ⟨g, j.toNat, none⟩ = some vj ∧ (W.setCell ⟨g, i.toNat, none⟩ vj).frozen? ⟨g, j.toNat, none⟩ = false := by
 obtain ⟨f, hR⟩ := h
 have hn := (Kd.R_reads' hR).1
 rw [List.length_zipIdx] at hn
 obtain ⟨hok0, inner, hown, hr⟩ := hR
 have hil : i.toNat < l.length := by omega
 have hjl : j.toNat < l.length := by omega
 have hlen : inner.length = l.length := by have := hr.1; rw [List.length_zipIdx] at this; exact this.trans (Nat.mul_one _)
 rw [List.length_zipIdx, ← hn] at hown
 have hgo : (Value.slice (some ⟨g, 0, none⟩) n c).ownBlock = some g := by simp [Value.ownBlock]
 have cellm : ∀ m u, inner[m]? = some u → W.cell? ⟨g, m, none⟩ = some u := fun m u hm => by
  have := hown.cells (g := g) hgo _ _ hm
  rwa [add_plain] at this
 have inn : ∀ m u, m < l.length → W.cell? ⟨g, m, none⟩ = some u → inner[m]? = some u := fun m u hm hu => by
  have h2 := cellm m _ (List.getElem?_eq_getElem (by omega))
  rw [hu] at h2
  rw [List.getElem?_eq_getElem (by omega)]; exact h2.symm
 have hii := inn _ _ hil hi
 have hjj := inn _ _ hjl hj
 have s1 := hown.stored i.toNat vj
 have s2 := s1.1.stored j.toNat vi
 have hg2 : W.grownBy ((W.setCell ⟨g, i.toNat, none⟩ vj).setCell ⟨g, j.toNat, none⟩ vi) (some g) := s1.2.trans s2.2
 have hlen2 : ((inner.set i.toNat vj).set j.toNat vi).length = l.length := by simp [hlen]
 have one : ∀ (L : List Value) (m : Nat), ∀ u, L[m]? = some u → (L.drop (m * 1)).take 1 = [u] := fun L m u hu => by
  rw [Nat.mul_one]
  obtain ⟨hm, e⟩ := List.getElem?_eq_some_iff.1 hu
  rw [List.drop_eq_getElem_cons hm, e]; rfl
 have moved : ∀ (m : Nat) (hm : m < l.length) (u : Value), inner[m]? = some u → ∀ q : Nat → Prop, (∀ k, P k → some k ≠ (Value.slice (some ⟨g, 0, none⟩) n c).ownBlock → f k = m → q k) →
  (Kd.slice 2 (Kd.int .i64)).M ((W.setCell ⟨g, i.toNat, none⟩ vj).setCell ⟨g, j.toNat, none⟩ vi) b q l[m] [u] := fun m hm u hu q hq => by
  have hM := hr.2 m _ (Kd.zip_at (List.getElem?_eq_getElem hm))
  have hM' : (Kd.slice 2 (Kd.int .i64)).M W b (fun k => (P k ∧ some k ≠ (Value.slice (some ⟨g, 0, none⟩) n c).ownBlock) ∧ f k = m) l[m] ((inner.drop (m * 1)).take 1) := hM
  rw [one inner m u hu] at hM'
  exact (Kd.slice 2 (Kd.int .i64)).M_mono (fun k hk => hq k hk.1.1 hk.1.2 hk.2) (Kd.M_step hM' (fun k hk hlt => hg2.block k hlt (fun he => hk.1.2 (by rw [hgo]; exact he))))
 have ej : rd_L1 l j = l[j.toNat] := by simp [rd_L1, List.getD, hjl]
 have ei : rd_L1 l i = l[i.toNat] := by simp [rd_L1, List.getD, hil]
 refine ⟨⟨fun k => if f k = i.toNat then j.toNat else if f k = j.toNat then i.toNat else f k, hok0, (inner.set i.toNat vj).set j.toNat vi, ?_, ?_, fun m p hm => ?_⟩, hg2, ?_, ?_⟩
 ·rw [List.length_zipIdx, swpR_length, ← hn]; exact s2.1
 ·rw [List.length_zipIdx, swpR_length, hlen2]; exact (Nat.mul_one _).symm
 ·rw [List.getElem?_zipIdx, Nat.zero_add] at hm
  obtain ⟨q, hq, rfl⟩ := Option.map_eq_some_iff.1 hm
  have hml : m < l.length := by have := (List.getElem?_eq_some_iff.1 hq).1; rwa [swpR_length] at this
  show (Kd.slice 2 (Kd.int .i64)).M _ b (fun k => (P k ∧ some k ≠ (Value.slice (some ⟨g, 0, none⟩) n c).ownBlock) ∧ (if f k = i.toNat then j.toNat else if f k = j.toNat then i.toNat else f k) = m) q ((((inner.set i.toNat vj).set j.toNat vi).drop (m * 1)).take 1)
  unfold swpR at hq
  by_cases hmj : m = j.toNat
  ·subst hmj
   rw [List.getElem?_set_self (by rw [List.length_set]; exact hjl)] at hq
   injection hq with hq
   rw [one _ _ vi (List.getElem?_set_self (by rw [List.length_set, hlen]; exact hjl)), ← hq, ei]
   refine moved i.toNat hil vi hii _ (fun k h1 h2 h3 => ⟨⟨h1, h2⟩, by rw [if_pos h3]⟩)
  rw [List.getElem?_set_ne (Ne.symm hmj)] at hq
  by_cases hmi : m = i.toNat
  ·subst hmi
   rw [List.getElem?_set_self hil] at hq
   injection hq with hq
   rw [one _ _ vj (by rw [List.getElem?_set_ne (Ne.symm hmj)]; exact List.getElem?_set_self (by rw [hlen]; exact hil)), ← hq, ej]
   refine moved j.toNat hjl vj hjj _ (fun k h1 h2 h3 => ⟨⟨h1, h2⟩, by rw [if_neg (by omega), if_pos h3]⟩)
  rw [List.getElem?_set_ne (Ne.symm hmi), List.getElem?_eq_getElem hml] at hq
  injection hq with hq
  rw [one _ _ (inner[m]'(by omega)) (by rw [List.getElem?_set_ne (Ne.symm hmj), List.getElem?_set_ne (Ne.symm hmi)]; exact List.getElem?_eq_getElem _), ← hq]
  refine moved m hml _ (List.getElem?_eq_getElem (by omega)) _ (fun k h1 h2 h3 => ⟨⟨h1, h2⟩, by rw [if_neg (by omega), if_neg (by omega)]; exact h3⟩)
 ·by_cases e : i.toNat = j.toNat
  ·have := s1.1.cells (g := g) hgo j.toNat vj (by rw [e]; exact List.getElem?_set_self (by rw [hlen]; exact hjl))
   rwa [add_plain] at this
  have := s1.1.cells (g := g) hgo j.toNat vj (by rw [List.getElem?_set_ne e]; exact hjj)
  rwa [add_plain] at this
 obtain ⟨cells, hc⟩ := own_typed s1.1 g hgo
 exact kQF hc _
mutual
def impl_Field_reduce.l0 : Nat → Int → List (List Int) → Int → List (List Int) → Int → Int → Int → Int → Option ((List (List Int)))
  | 0, _, _, _, _, _, _, _, _ => none
  | k + 1, x1, x7, x8, x21, x22, x23, x249000, x249001 => if x23 < x22 then (if 0 ≤ x23 then (if x23 < (x21.length : Int) then ((slices_Clone_int64_int64.f (rd_L1 x21 x23)).bind fun t253 => (if x7.length < 5864062014805 then (impl_Field_reduce.l0 k x1 (x7 ++ [t253]) x8 x21 x22 (wrap64 (x23 + 1)) x249000 x249001) else (none))) else (none)) else (none)) else (impl_Field_reduce.l1 k x7 x8 x1 0 x249000 x249001)
def impl_Field_reduce.l1 : Nat → List (List Int) → Int → Int → Int → Int → Int → Option ((List (List Int)))
  | 0, _, _, _, _, _, _ => none
  | k + 1, x7, x8, x33, x34, x249000, x249001 => if x34 < x33 then (if 0 ≤ x8 then (if x8 ≤ (x7.length : Int) then ((slices_IndexFunc_int64_int64_AT_impl_Field_reduce_1.f k (x7.drop (x8 : Int).toNat) x34).bind fun t267 => (if t267 < 0 then (impl_Field_reduce.l1 k x7 x8 x33 (wrap64 (x34 + 1)) x249000 x249001) else (if x8 < (x7.length : Int) then (if 0 ≤ (wrap64 (x8 + t267)) then (if (wrap64 (x8 + t267)) < (x7.length : Int) then (if 0 ≤ x34 then (if x34 < ((rd_L1 (swpR x7 x8 (wrap64 (x8 + t267))) x8).length : Int) then ((impl_Field_inverse.f k x249000 x249001 (rd (rd_L1 (swpR x7 x8 (wrap64 (x8 + t267))) x8) x34)).bind fun t271 => (impl_Field_reduce.l2 k (swpR x7 x8 (wrap64 (x8 + t267))) x8 (rd_L1 (swpR x7 x8 (wrap64 (x8 + t267))) x8) t271 x33 x34 ((rd_L1 (swpR x7 x8 (wrap64 (x8 + t267))) x8).length : Int) 0 x249000 x249001)) else (none)) else (none)) else (none)) else (none)) else (none)))) else (none)) else (none)) else (if 0 ≤ x8 then (if x8 ≤ (x7.length : Int) then (some (x7.take (x8 : Int).toNat)) else (none)) else (none))
def impl_Field_reduce.l2 : Nat → List (List Int) → Int → List Int → Int → Int → Int → Int → Int → Int → Int → Option ((List (List Int)))
  | 0, _, _, _, _, _, _, _, _, _, _ => none
  | k + 1, x7, x8, x13, x14, x33, x34, x76, x77, x249000, x249001 => if x77 < x76 then (if 0 ≤ x77 then (if x77 < (x13.length : Int) then ((impl_Field_mul.f k x249000 x249001 (rd x13 x77) x14).bind fun t257 => (impl_Field_reduce.l2 k x7 x8 (x13.set (x77 : Int).toNat t257) x14 x33 x34 x76 (wrap64 (x77 + 1)) x249000 x249001)) else (none)) else (none)) else (impl_Field_reduce.l3 k (x7.set (x8 : Int).toNat x13) x8 x33 x34 (x7.length : Int) 0 x249000 x249001)
def impl_Field_reduce.l3 : Nat → List (List Int) → Int → Int → Int → Int → Int → Int → Int → Option ((List (List Int)))
  | 0, _, _, _, _, _, _, _, _ => none
  | k + 1, x7, x8, x33, x34, x92, x93, x249000, x249001 => if x93 < x92 then (if 0 ≤ x93 then (if x93 < (x7.length : Int) then (if 0 ≤ x34 then (if x34 < ((rd_L1 x7 x93).length : Int) then (if x93 = x8 then (impl_Field_reduce.j4 k x7 x8 x33 x34 x92 x93 false x249000 x249001) else (impl_Field_reduce.j4 k x7 x8 x33 x34 x92 x93 ((rd (rd_L1 x7 x93) x34) != 0) x249000 x249001)) else (none)) else (none)) else (none)) else (none)) else (impl_Field_reduce.l1 k x7 (wrap64 (x8 + 1)) x33 (wrap64 (x34 + 1)) x249000 x249001)
def impl_Field_reduce.j4 : Nat → List (List Int) → Int → Int → Int → Int → Int → Bool → Int → Int → Option ((List (List Int)))
  | 0, _, _, _, _, _, _, _, _, _ => none
  | k + 1, x7, x8, x33, x34, x92, x93, x108, x249000, x249001 => if x108 = true then (if 0 ≤ x8 then (if x8 < (x7.length : Int) then (impl_Field_reduce.l4 k x7 x8 (rd_L1 x7 x8) (rd_L1 x7 x93) (rd (rd_L1 x7 x93) x34) x33 x34 x92 x93 ((rd_L1 x7 x93).length : Int) 0 x249000 x249001) else (none)) else (none)) else (impl_Field_reduce.l3 k x7 x8 x33 x34 x92 (wrap64 (x93 + 1)) x249000 x249001)
def impl_Field_reduce.l4 : Nat → List (List Int) → Int → List Int → List Int → Int → Int → Int → Int → Int → Int → Int → Int → Int → Option ((List (List Int)))
  | 0, _, _, _, _, _, _, _, _, _, _, _, _, _ => none
  | k + 1, x7, x8, x13, x17, x18, x33, x34, x92, x93, x110, x111, x249000, x249001 => if x111 < x110 then (if 0 ≤ x111 then (if x111 < (x17.length : Int) then (if x111 < (x13.length : Int) then ((impl_Field_mul.f k x249000 x249001 x18 (rd x13 x111)).bind fun t262 => (impl_Field_reduce.l4 k x7 x8 x13 (x17.set (x111 : Int).toNat (Go.bits .xor .i64 (rd x17 x111) t262)) x18 x33 x34 x92 x93 x110 (wrap64 (x111 + 1)) x249000 x249001)) else (none)) else (none)) else (none)) else (impl_Field_reduce.l3 k (x7.set (x93 : Int).toNat x17) x8 x33 x34 x92 (wrap64 (x93 + 1)) x249000 x249001)
end
def impl_Field_reduce.f (k : Nat) (a0_0 : Int) (a0_1 : Int) (a1 : Int) (l2 : List (List Int)) : Option ((List (List Int))) := impl_Field_reduce.l0 k a1 (([] : List (List Int))) 0 l2 (l2.length : Int) 0 a0_0 a0_1
theorem impl_Field_reduce.mono_l : ∀ k, (∀ y0 y1 y2 y3 y4 y5 y6 y7, LeO (impl_Field_reduce.l0 k y0 y1 y2 y3 y4 y5 y6 y7) (impl_Field_reduce.l0 (k + 1) y0 y1 y2 y3 y4 y5 y6 y7)) ∧ (∀ y0 y1 y2 y3 y4 y5, LeO (impl_Field_reduce.l1 k y0 y1 y2 y3 y4 y5) (impl_Field_reduce.l1 (k + 1) y0 y1 y2 y3 y4 y5)) ∧ (∀ y0 y1 y2 y3 y4 y5 y6 y7 y8 y9, LeO (impl_Field_reduce.l2 k y0 y1 y2 y3 y4 y5 y6 y7 y8 y9) (impl_Field_reduce.l2 (k + 1) y0 y1 y2 y3 y4 y5 y6 y7 y8 y9)) ∧ (∀ y0 y1 y2 y3 y4 y5 y6 y7, LeO (impl_Field_reduce.l3 k y0 y1 y2 y3 y4 y5 y6 y7) (impl_Field_reduce.l3 (k + 1) y0 y1 y2 y3 y4 y5 y6 y7)) ∧ (∀ y0 y1 y2 y3 y4 y5 y6 y7 y8, LeO (impl_Field_reduce.j4 k y0 y1 y2 y3 y4 y5 y6 y7 y8) (impl_Field_reduce.j4 (k + 1) y0 y1 y2 y3 y4 y5 y6 y7 y8)) ∧ (∀ y0 y1 y2 y3 y4 y5 y6 y7 y8 y9 y10 y11 y12, LeO (impl_Field_reduce.l4 k y0 y1 y2 y3 y4 y5 y6 y7 y8 y9 y10 y11 y12) (impl_Field_reduce.l4 (k + 1) y0 y1 y2 y3 y4 y5 y6 y7 y8 y9 y10 y11 y12))
 | 0 => ⟨fun _ _ _ _ _ _ _ _ r h => by simp [impl_Field_reduce.l0] at h, fun _ _ _ _ _ _ r h => by simp [impl_Field_reduce.l1] at h, fun _ _ _ _ _ _ _ _ _ _ r h => by simp [impl_Field_reduce.l2] at h, fun _ _ _ _ _ _ _ _ r h => by simp [impl_Field_reduce.l3] at h, fun _ _ _ _ _ _ _ _ _ r h => by simp [impl_Field_reduce.j4] at h, fun _ _ _ _ _ _ _ _ _ _ _ _ _ r h => by simp [impl_Field_reduce.l4] at h⟩
 | k + 1 => by
  obtain ⟨ih0, ih1, ih2, ih3, ih4, ih5⟩ := impl_Field_reduce.mono_l k
  refine ⟨?_, ?_, ?_, ?_, ?_, ?_⟩ <;> intros <;> first | unfold impl_Field_reduce.l0 | unfold impl_Field_reduce.l1 | unfold impl_Field_reduce.l2 | unfold impl_Field_reduce.l3 | unfold impl_Field_reduce.j4 | unfold impl_Field_reduce.l4
  all_goals repeat' first
   | (with_reducible first | apply ih0 | apply ih1 | apply ih2 | apply ih3 | apply ih4 | apply ih5 | apply impl_Field_mul.mono | apply impl_Field_inverse.mono | apply slices_IndexFunc_int64_int64_AT_impl_Field_reduce_1.mono | exact LeO.refl _ | exact LeO.none _ | refine LeO.ite ?_ ?_ | refine LeO.bind ?_ (fun _ => ?_))
   | exact LeO.none _
   | refine LeO.ite ?_ ?_
   | refine LeO.bind ?_ (fun _ => ?_)
theorem impl_Field_reduce.mono : ∀ a0 a1 a2 a3 k, LeO (impl_Field_reduce.f k a0 a1 a2 a3) (impl_Field_reduce.f (k + 1) a0 a1 a2 a3) := by
 intro a0 a1 a2 a3 k
 obtain ⟨ih0, ih1, ih2, ih3, ih4, ih5⟩ := impl_Field_reduce.mono_l k
 unfold impl_Field_reduce.f
 repeat' first
 | (with_reducible first | apply ih0 | apply ih1 | apply ih2 | apply ih3 | apply ih4 | apply ih5 | apply impl_Field_mul.mono | apply impl_Field_inverse.mono | apply slices_IndexFunc_int64_int64_AT_impl_Field_reduce_1.mono | exact LeO.refl _ | exact LeO.none _ | refine LeO.ite ?_ ?_ | refine LeO.bind ?_ (fun _ => ?_))
 | exact LeO.none _
 | refine LeO.ite ?_ ?_
 | refine LeO.bind ?_ (fun _ => ?_)
def impl_Field_reduce.T12 : Bool × List (List Nat × List Nat) := (true, [([], []), ([], []), ([], []), ([], []), ([], []), ([3, 4], [3, 4]), ([], []), ([], []), ([], []), ([7, 8], [7, 8]), ([6, 9], [6, 9]), ([10], [10]), ([], []), ([], []), ([12, 13], [12, 13]), ([14], [14]), ([0, 1, 0, 1, 6, 7, 8, 9, 10, 11, 15], [0, 1]), ([16, 11, 0, 1, 6, 7, 8, 9, 10, 11, 15], [11, 16]), ([2, 5, 0, 1, 2, 3, 4, 5, 6, 7, 8, 9, 10, 11, 12, 13, 14, 15, 16, 17], [2, 5]), ([18, 15, 17, 0, 1, 2, 3, 4, 5, 6, 7, 8, 9, 10, 11, 12, 13, 14, 15, 16, 17], [15, 18])])
def impl_Field_reduce.B12 : List Nat := [0, 0, 0, 0, 0, 24, 0, 0, 0, 384, 960, 1984, 0, 0, 12288, 28672, 65475, 131011, 262143, 524287]
theorem impl_Field_reduce.tab12 : rtab .any (opsOf Try.f46 12) = impl_Field_reduce.T12 := by kernel_rfl
theorem impl_Field_reduce.bits12 : waitsOk impl_Field_reduce.T12.2 impl_Field_reduce.B12 = true := by kernel_rfl
def impl_Field_reduce.T13 : Bool × List (List Nat × List Nat) := (true, [([], []), ([], []), ([0, 1], [0, 1]), ([2], [2]), ([], []), ([], []), ([], []), ([5, 6], [5, 6]), ([7], [7]), ([], []), ([8, 9], [8, 9]), ([10], [10]), ([4, 11], [4, 11]), ([3, 12, 0, 1, 2, 3], [3]), ([12, 13, 0, 1, 2, 3, 4, 5, 6, 7, 8, 9, 10, 11, 12, 13], [12])])
def impl_Field_reduce.B13 : List Nat := [0, 0, 3, 7, 0, 0, 0, 96, 224, 0, 992, 2016, 4080, 8191, 16383]
theorem impl_Field_reduce.tab13 : rtab .any (opsOf Try.f46 13) = impl_Field_reduce.T13 := by kernel_rfl
theorem impl_Field_reduce.bits13 : waitsOk impl_Field_reduce.T13.2 impl_Field_reduce.B13 = true := by kernel_rfl
def impl_Field_reduce.T17 : Bool × List (List Nat × List Nat) := (true, [([], []), ([], []), ([], []), ([], []), ([], []), ([3, 4], [3, 4]), ([5], [5]), ([], []), ([2, 6, 7], [2, 6, 7]), ([0, 1, 0, 1, 2, 3, 4, 5, 6, 7, 8], [0, 1]), ([9, 8, 8, 0, 1, 2, 3, 4, 5, 6, 7, 8], [8, 9])])
def impl_Field_reduce.B17 : List Nat := [0, 0, 0, 0, 0, 24, 56, 0, 252, 511, 1023]
theorem impl_Field_reduce.tab17 : rtab .any (opsOf Try.f46 17) = impl_Field_reduce.T17 := by kernel_rfl
theorem impl_Field_reduce.bits17 : waitsOk impl_Field_reduce.T17.2 impl_Field_reduce.B17 = true := by kernel_rfl
def impl_Field_reduce.T27 : Bool × List (List Nat × List Nat) := (true, [([], []), ([], []), ([0, 1], [0, 1]), ([2], [2]), ([], []), ([], []), ([], []), ([], []), ([6, 7], [6, 7]), ([8], [8]), ([4, 5, 9], [4, 5, 9]), ([3, 10], [3, 10]), ([0, 1, 0, 1, 2, 3, 4, 5, 6, 7, 8, 9, 10, 11], [0, 1]), ([12, 11, 10, 0, 1, 2, 3, 4, 5, 6, 7, 8, 9, 10, 11], [11, 12])])
def impl_Field_reduce.B27 : List Nat := [0, 0, 3, 7, 0, 0, 0, 0, 192, 448, 1008, 2047, 4095, 8191]
theorem impl_Field_reduce.tab27 : rtab .any (opsOf Try.f46 27) = impl_Field_reduce.T27 := by kernel_rfl
theorem impl_Field_reduce.bits27 : waitsOk impl_Field_reduce.T27.2 impl_Field_reduce.B27 = true := by kernel_rfl
theorem impl_Field_reduce.calls (k : Nat) (a0_0 : Int) (a0_1 : Int) (a1 : Int) (A2 : Option Addr) (c2 : Nat) (l2 : List (List Int)) (r : List (List Int)) (w : World) (hr2 : Kd.C (Kd.slice 2 (Kd.int .i64)) w A2 l2.length l2) (hc2 : l2.length ≤ c2) (h : impl_Field_reduce.f k a0_0 a0_1 a1 l2 = some r) :
 Calls Try.prog 46 #[.agg #[.int .i64 a0_0, .int .i64 a0_1], .int .i64 a1, .slice A2 l2.length c2] w fun e w' => ∃ v0_ : Value, e = .returned (v0_) ∧ Kd.S (Kd.slice 2 (Kd.int .i64)) 38 w' w.heap.size (fun _ => True) v0_ r ∧ Below w.heap.size w w' := by
 have hu28 := Try.underlying28
 have HR2 := Aq.mk hr2
 have HC2 := Aq.mk hc2
 clear hr2 hc2
 have HB := Aq.mk (Below.refl w.heap.size w)
 have H : (impl_Field_reduce.l0 k a1 (([] : List (List Int))) 0 l2 (l2.length : Int) 0 a0_0 a0_1) = some r := h
 clear h
 obtain ⟨y249, hy249⟩ : ∃ y_ : List (List Int), y_ = (([] : List (List Int))) := ⟨_, rfl⟩
 replace H : (impl_Field_reduce.l0 k a1 y249 0 l2 (l2.length : Int) 0 a0_0 a0_1) = some r := by first | (rw [hy249]; with_reducible exact H) | (have H2_ := (Option.bind_some _ _).symm.trans H; rw [hy249]; with_reducible exact H2_) | (have H2_ := (Option.bind_some _ _).symm.trans H; with_reducible exact H2_) | with_reducible exact H | (rw [hy249]; exact H) | exact H
 have Ny249 := Aq.mk hy249
 clear hy249
 replace H' := Aq.mk H
 clear H
 go_enter Try.func46, Try.ntmps46
 go_wp2_with (first | ((with_reducible refine gQd (N := 3) rfl ?_); refine xQe ?hg (N := 3) ?hd (cs := #[.int .i64 a0_0, .int .i64 a0_1]) (t := 28) ?hr ?_; (case hd => rfl); (case hg => rfl); (case hr => exact tH); intro gb248 hg w4 hbox hb; refine qM4 (bQT tB hb) hbox (tZ w hg) (tZ w hg) ?_; clear HB; intro HB BK248 GW248 GE248; clear hb hbox hg) | ((with_reducible refine gQd (N := 20) rfl ?_); refine Kd.S_lit (Kd.slice 2 (Kd.int .i64)) _ 38 ?hg (N := 20) ?hd (xs := ([] : List (List Int))) (inner := []) (ok := fun _ => True) (okp := fun _ => True) ?hr ?hp (fun _ hk => hk) trivial (Below.refl _ _) (Nat.le_refl _) (by simp) ?_; (case hd => rfl); (case hg => rfl); (case hr => exact tH); (case hp => exact (Reps.none _ _)); intro v250 w5 ho6 hb hg_ hnew_; clear hg_ hnew_; (first | rw [← Ny249.out] at ho6 | (simp only [Int.reduceToNat] at ho6; rw [← Ny249.out] at ho6)); refine qM3 (Kd.S_lower ho6 (bQZ tB)) (tQ BK248.out hb) (bQT tB hb) ?_; clear BK248 HB; intro HO251 BK248 HB; clear hb ho6))
 go_loopg [7, 23] k (fun kq v7 v23 w' => ∃ (x7_1 : List (List Int)) (x23_1 : Int), v23 = .int .i64 x23_1 ∧ Aq (impl_Field_reduce.l0 kq a1 x7_1 0 l2 (l2.length : Int) x23_1 a0_0 a0_1 = some r) ∧ Aq (kq ≤ k) ∧ Aq (Kd.S (Kd.slice 2 (Kd.int .i64)) 38 w' w.heap.size (fun _ => True) v7 x7_1) ∧ Aq (w'.heap[gb248]? = some (.cells #[.int .i64 a0_0, .int .i64 a0_1] 28 (0, 0))) ∧ Aq (Below w.heap.size w w'))
 case atStart => exact ⟨(y249), (0), tS, H', ⟨Nat.le_refl _⟩, ⟨by (with_reducible repeat (first | apply Kd.S_alloc | apply Kd.S_drewN | apply Kd.S_drew)); exact HO251.out⟩, ⟨tG BK248.out⟩, ⟨tB⟩⟩
 clear H'
 try clear c2
 obtain ⟨x7_1, x23_1, rfl, HA, HK1, HO_7, BK248, HB⟩ := hrel
 cases gk with
 | zero => exact absurd HA.out (by simp [impl_Field_reduce.l0])
 | succ k1 =>
  have H := HA.out
  clear HA
  simp only [impl_Field_reduce.l0] at H
  by_cases c7 : x23_1 < (l2.length : Int)
  ·rw [if_pos c7] at H
   have c7b0 := decide_eq_true c7
   clear c7
   by_cases c8 : 0 ≤ x23_1
   rotate_left
   ·rw [if_neg c8] at H
    exact absurd H (by simp)
   rw [if_pos c8] at H
   have c8b0 := decide_eq_true c8
   clear c8
   by_cases c9 : x23_1 < (l2.length : Int)
   rotate_left
   ·rw [if_neg c9] at H
    exact absurd H (by simp)
   rw [if_pos c9] at H
   have c9b0 := decide_eq_true c9
   clear c9
   obtain ⟨t253, A10, H⟩ := qBd H
   by_cases c11 : x7_1.length < 5864062014805
   rotate_left
   ·rw [if_neg c11] at H
    exact absurd H (by simp)
   rw [if_pos c11] at H
   have LMc11 := Aq.mk c11
   clear c11
   obtain ⟨y256, hy256⟩ : ∃ y_ : List (List Int), y_ = (x7_1 ++ [t253]) := ⟨_, rfl⟩
   replace H : (impl_Field_reduce.l0 k1 a1 y256 0 l2 (l2.length : Int) (wrap64 (x23_1 + 1)) a0_0 a0_1) = some r := by first | (rw [hy256]; with_reducible exact H) | (have H2_ := (Option.bind_some _ _).symm.trans H; rw [hy256]; with_reducible exact H2_) | (have H2_ := (Option.bind_some _ _).symm.trans H; with_reducible exact H2_) | with_reducible exact H | (rw [hy256]; exact H) | exact H
   have Ny256 := Aq.mk hy256
   clear hy256
   replace H' := Aq.mk H
   clear H
   have p252 : 0 ≤ (x23_1 : Int) := of_decide_eq_true tA
   have q252 : x23_1 < (l2.length : Int) := of_decide_eq_true tA
   obtain ⟨ad252, A252_0, c252_0, e252, hx252_0, hl252_0, hi252_0⟩ := at_L1 HR2.out x23_1 p252 q252
   cases e252
   replace hx252_0 := (HB.out.cell (World.block_lt_of_cell? w _ hx252_0)).trans hx252_0
   have HR252_0 := Aq.mk hi252_0
   have HC252_0 := Aq.mk hl252_0
   clear hi252_0 hl252_0
   replace p252 := eq_true p252
   replace q252 := eq_true q252
   go_wp2_with (first | ((with_reducible refine gQc (f := 73) rfl ?_); refine goesL_ (some 29) rfl rfl Try.func73 (by kernel_rfl) rfl #[.slice A252_0 (rd_L1 l2 x23_1).length c252_0] rfl tL ?_; (with_reducible refine (slices_Clone_int64_int64.calls _ _ (rd_L1 l2 x23_1) t253 _ ?s1 ?s2 A10.out).mono ?_); (case s1 => exact tC ((Kd.C_below HR252_0.out HB.out))); (case s2 => exact HC252_0.out); rintro e w12 ⟨v254, rfl, ho0, hb⟩; refine ⟨_, rfl, ?_⟩; refine qM4 (Kd.S_elder' (by (with_reducible repeat (first | apply Kd.S_alloc | apply Kd.S_drewN | apply Kd.S_drew)); exact HO_7.out) (Kd.R_base ho0) hb) (Kd.R_lower ho0 (bQZ tB)) (tQ BK248.out hb) (bQT tB hb) ?_; clear HO_7 BK248 HB; intro HO_7 HO255 BK248 HB; (try clear hb); (try clear hb2); (try clear hk); (try clear hi); (try clear ho0); obtain ⟨Ao14, co14, eo14⟩ := Kd.R_slice HO255.out; subst eo14) | ((with_reducible refine gate_builtin (b := .append) (xs := #[.tmp 27, .tmp 30]) rfl ?_); at_builtin; refine Kd.S_append (Kd.slice 2 (Kd.int .i64)) (w0 := w) w.heap.size rfl (.tmp 27) (.tmp 30) 24 38 (.slice none 0 0) 24 rfl Try.underlying24 info38 rfl (by decide) (by omega) u7 x7_1 t253 [.slice Ao14 t253.length co14] (fun _ => True) (fun k_ => some k_ = (.slice Ao14 t253.length co14 : Value).ownBlock) rfl rfl ?aP (fun k_ hk_ => ((Kd.R_mono (ok' := fun k_ => ((fun _ => True)) k_ ∧ some k_ ≠ (u7 : Value).ownBlock) (Kd.R_apart' (HO255.out) (Kd.S_typed HO_7.out) (by decide)) (fun k_ hk => ⟨trivial, hk.2⟩))).1 k_ hk_.symm) ?aF ?aO ?aB ?aS ?aL ?_; (case aP => exact Kd.M_row (Kd.R_mono (Kd.R_tight rfl (Kd.R_mono (ok' := fun k_ => ((fun _ => True)) k_ ∧ some k_ ≠ (u7 : Value).ownBlock) (Kd.R_apart' (HO255.out) (Kd.S_typed HO_7.out) (by decide)) (fun k_ hk => ⟨trivial, hk.2⟩))) (fun _ h_ => h_))); (case aB => exact tB); (case aF => exact (fun _ _ => trivial)); (case aO => exact (by (with_reducible repeat (first | apply Kd.S_alloc | apply Kd.S_drewN | apply Kd.S_drew)); exact Kd.S_mono HO_7.out (fun k_ hk => ⟨trivial, fun e_ => hk.2 e_⟩))); (case aS => exact (bQZ tB)); (case aL => have := LMc11.out; omega); intro v257 w13 ho hb hg hat; rw [← Ny256.out] at ho; refine qM3 (blk_grown (g := gb248) (o := .cells #[.int .i64 a0_0, .int .i64 a0_1] 28 (0, 0)) (tG BK248.out) hg (Kd.S_ne HO_7.out BK248.out (by decide))) hb ho ?_; clear BK248 HB HO_7 HO255; intro BK248 HB HO258; clear ho hb hg hat))
   go_roundg k1
   case measure => have := HK1.out; omega
   case rel => exact ⟨(y256), (wrap64 (x23_1 + 1)), tS, H', ⟨by have := HK1.out; omega⟩, ⟨by (with_reducible repeat (first | apply Kd.S_alloc | apply Kd.S_drewN | apply Kd.S_drew)); exact HO258.out⟩, ⟨tG BK248.out⟩, ⟨tB⟩⟩
  rw [if_neg c7] at H
  have c7b0 := decide_eq_false c7
  clear c7
  replace H' := Aq.mk H
  clear H
  go_wp2
  go_loopg [8, 34] k1 (fun kq v8 v34 w' => ∃ (x7_2 : List (List Int)) (x8_2 : Int) (x34_2 : Int), v8 = .int .i64 x8_2 ∧ v34 = .int .i64 x34_2 ∧ Aq (impl_Field_reduce.l1 kq x7_2 x8_2 a1 x34_2 a0_0 a0_1 = some r) ∧ Aq (kq ≤ k1) ∧ Aq (Kd.S (Kd.slice 2 (Kd.int .i64)) 38 w' w.heap.size (fun _ => True) u7 x7_2) ∧ Aq (w'.heap[gb248]? = some (.cells #[.int .i64 a0_0, .int .i64 a0_1] 28 (0, 0))) ∧ Aq (Below w.heap.size w w'))
  case atStart => exact ⟨x7_1, (0), (0), tS, tS, H', ⟨Nat.le_refl _⟩, ⟨by (with_reducible repeat (first | apply Kd.S_alloc | apply Kd.S_drewN | apply Kd.S_drew)); exact HO_7.out⟩, ⟨tG BK248.out⟩, ⟨tB⟩⟩
  clear H'
  try clear c2
  try clear c7
  try clear c7b0
  try clear c8
  try clear c8b0
  try clear c9
  try clear c9b0
  try clear c11
  try clear hx252_0
  try clear p252
  try clear q252
  obtain ⟨x7_2, x8_2, x34_2, rfl, rfl, HA, HK2, HO_7, BK248, HB⟩ := hrel
  cases gk with
  | zero => exact absurd HA.out (by simp [impl_Field_reduce.l1])
  | succ k2 =>
   have H := HA.out
   clear HA
   simp only [impl_Field_reduce.l1] at H
   by_cases c15 : x34_2 < a1
   rotate_left
   ·rw [if_neg c15] at H
    have c15b0 := decide_eq_false c15
    clear c15
    by_cases c38 : 0 ≤ x8_2
    rotate_left
    ·rw [if_neg c38] at H
     exact absurd H (by simp)
    rw [if_pos c38] at H
    have c38b0 := eq_true c38
    have c38b1 := decide_eq_true c38
    clear c38
    by_cases c39 : x8_2 ≤ (x7_2.length : Int)
    rotate_left
    ·rw [if_neg c39] at H
     exact absurd H (by simp)
    rw [if_pos c39] at H
    have c39b0 := eq_true c39
    have c39b1 := decide_eq_true c39
    clear c39
    obtain ⟨y259, hy259⟩ : ∃ y_ : List (List Int), y_ = (x7_2.take (x8_2 : Int).toNat) := ⟨_, rfl⟩
    replace H : (some y259) = some r := by first | (rw [hy259]; with_reducible exact H) | (have H2_ := (Option.bind_some _ _).symm.trans H; rw [hy259]; with_reducible exact H2_) | (have H2_ := (Option.bind_some _ _).symm.trans H; with_reducible exact H2_) | with_reducible exact H | (rw [hy259]; exact H) | exact H
    have Ny259 := Aq.mk hy259
    clear hy259
    obtain rfl := Option.some.inj H
    obtain ⟨Ao40, co40, eo40⟩ := Kd.S_slice HO_7.out
    subst eo40
    have q41 : (x8_2 : Int) ≤ ((x7_2.length : Int) : Int) := of_decide_eq_true tA
    obtain ⟨i041, hi041, _, hsz41, _⟩ := info_parts info38
    have hcut41 := cut_to (P := Try.prog) 24 38 .i64 Try.underlying24 hi041 Ao40 x7_2.length co40 x8_2 (of_decide_eq_true tA) q41 (Kd.S_reads' HO_7.out).2.1
    have hr41 := Kd.S_take (m := (x8_2 : Int).toNat) HO_7.out (by omega)
    have hy41 : y259.length = (x8_2 : Int).toNat := (by rw [Ny259.out, List.length_take]; omega)
    rw [← Ny259.out] at hr41
    rw [← hy41] at hr41 hcut41
    clear hy41 hi041 hsz41 HO_7
    have HO261 := Aq.mk hr41
    clear hr41
    replace q41 := eq_true q41
    go_wp2
    go_ret
    exact ⟨_, tE, by (with_reducible repeat (first | apply Kd.S_alloc | apply Kd.S_drewN | apply Kd.S_drew)); exact HO261.out, tB⟩
   rw [if_pos c15] at H
   have c15b0 := decide_eq_true c15
   clear c15
   by_cases c16 : 0 ≤ x8_2
   rotate_left
   ·rw [if_neg c16] at H
    exact absurd H (by simp)
   rw [if_pos c16] at H
   have c16b0 := eq_true c16
   have c16b1 := decide_eq_true c16
   clear c16
   by_cases c17 : x8_2 ≤ (x7_2.length : Int)
   rotate_left
   ·rw [if_neg c17] at H
    exact absurd H (by simp)
   rw [if_pos c17] at H
   have c17b0 := eq_true c17
   have c17b1 := decide_eq_true c17
   clear c17
   obtain ⟨y263, hy263⟩ : ∃ y_ : List (List Int), y_ = (x7_2.drop (x8_2 : Int).toNat) := ⟨_, rfl⟩
   replace H : ((slices_IndexFunc_int64_int64_AT_impl_Field_reduce_1.f k2 y263 x34_2).bind fun t267 => (if t267 < 0 then (impl_Field_reduce.l1 k2 x7_2 x8_2 a1 (wrap64 (x34_2 + 1)) a0_0 a0_1) else (if x8_2 < (x7_2.length : Int) then (if 0 ≤ (wrap64 (x8_2 + t267)) then (if (wrap64 (x8_2 + t267)) < (x7_2.length : Int) then (if 0 ≤ x34_2 then (if x34_2 < ((rd_L1 (swpR x7_2 x8_2 (wrap64 (x8_2 + t267))) x8_2).length : Int) then ((impl_Field_inverse.f k2 a0_0 a0_1 (rd (rd_L1 (swpR x7_2 x8_2 (wrap64 (x8_2 + t267))) x8_2) x34_2)).bind fun t271 => (impl_Field_reduce.l2 k2 (swpR x7_2 x8_2 (wrap64 (x8_2 + t267))) x8_2 (rd_L1 (swpR x7_2 x8_2 (wrap64 (x8_2 + t267))) x8_2) t271 a1 x34_2 ((rd_L1 (swpR x7_2 x8_2 (wrap64 (x8_2 + t267))) x8_2).length : Int) 0 a0_0 a0_1)) else (none)) else (none)) else (none)) else (none)) else (none)))) = some r := by first | (rw [hy263]; with_reducible exact H) | (have H2_ := (Option.bind_some _ _).symm.trans H; rw [hy263]; with_reducible exact H2_) | (have H2_ := (Option.bind_some _ _).symm.trans H; with_reducible exact H2_) | with_reducible exact H | (rw [hy263]; exact H) | exact H
   have Ny263 := Aq.mk hy263
   clear hy263
   obtain ⟨t267, A18, H⟩ := qBd H
   by_cases c19 : t267 < 0
   ·rw [if_pos c19] at H
    have c19b0 := decide_eq_true c19
    clear c19
    replace H' := Aq.mk H
    clear H
    go_wp2_with (first | ((with_reducible refine gQd (N := 11) rfl ?_); refine xQe ?hg (N := 11) ?hd (cs := #[.int .i64 0]) (t := 2) ?hr ?_; (case hd => rfl); (case hg => rfl); (case hr => exact tH); intro gb262 hg w20 hbox hb; refine qM8 (Kd.S_below (Kd.S_elderB (by (with_reducible repeat (first | apply Kd.S_alloc | apply Kd.S_drewN | apply Kd.S_drew)); exact HO_7.out) gb262 (Nat.le_of_eq hg.symm)) hb) (tQ BK248.out hb) (bQT tB hb) hbox (tZ w hg) (tZ w hg) ((by rw [hg]; exact Nat.ne_of_lt (blk_lt (g := gb248) (o := .cells #[.int .i64 a0_0, .int .i64 a0_1] 28 (0, 0)) (tG BK248.out)) : gb248 ≠ gb262)) ((by rw [hg]; exact Nat.ne_of_gt (blk_lt (g := gb248) (o := .cells #[.int .i64 a0_0, .int .i64 a0_1] 28 (0, 0)) (tG BK248.out)) : gb262 ≠ gb248)) ?_; clear HO_7 BK248 HB; intro HO_7 BK248 HB BK262 GW262 GE262 NB248_262 NB262_248; clear hb hbox hg; have hnb21 := NB262_248.out; have hnc21 := NB248_262.out; have hcz22_0 : w20.cell? ⟨gb262, 0, none⟩ = some (.int .i64 0) := (kQC BK262.out 0).trans rfl; have hfz22_0 := kQF BK262.out 0) | ((with_reducible refine gate_store (t := 2) (p := 11) rfl ?_); refine store_event (t := 2) (p := 11) (v := ?vo_w23) (w1 := (w20.setCell ⟨gb262, 0, none⟩ (.int .i64 x34_2))) ?hg ?ho ?hn ?hr ?_; (case ho => rfl); (case hg => rfl); (case hn => rfl); (case hr => exact tH); intro w23 hw; have n0_ : Aq (Kd.S (Kd.slice 2 (Kd.int .i64)) 38 w23 w.heap.size (fun k_ => k_ ≠ gb262) u7 x7_2) := ⟨(by rw [hw]; exact (by (with_reducible repeat (first | apply Kd.S_alloc | apply Kd.S_drewN | apply Kd.S_drew)); exact Kd.S_mono (Kd.S_far (p := ⟨gb262, 0, none⟩) (Kd.S_mono HO_7.out (fun k_ hk => (⟨hk, hk.2⟩ : _ ∧ k_ ≠ gb262))) (fun _ hk => hk.2) (.int .i64 x34_2)) (fun _ hk => hk.1.2)))⟩; have n1_ : Aq (w23.heap[gb248]? = some (.cells #[.int .i64 a0_0, .int .i64 a0_1] 28 (0, 0))) := ⟨(by rw [hw]; exact (by (with_reducible repeat (first | refine kQN ?_ _ | refine kQD ?_ | refine kQA ?_ _)); refine kQR ?_ NB248_262.out _; (with_reducible repeat (first | refine kQN ?_ _ | refine kQD ?_ | refine kQA ?_ _)); exact BK248.out))⟩; have n2_ : Aq (w23.heap[gb262]? = some (.cells #[.int .i64 x34_2] 2 (0, 0))) := ⟨(by rw [hw]; exact (by (with_reducible repeat (first | refine kQN ?_ _ | refine kQD ?_ | refine kQA ?_ _)); refine kQP (cs := #[.int .i64 0]) ?_ 0 _ rfl; (with_reducible repeat (first | refine kQN ?_ _ | refine kQD ?_ | refine kQA ?_ _)); exact BK262.out))⟩; have n3_ : Aq (Below w.heap.size w w23) := ⟨(by rw [hw]; exact tB)⟩; clear hw; clear HO_7; clear BK248; clear BK262; clear HB; have HO_7 := n0_; have BK248 := n1_; have BK262 := n2_; have HB := n3_; clear n0_ n1_ n2_ n3_; obtain ⟨Ao25, co25, eo25⟩ := Kd.S_slice HO_7.out; subst eo25; have q24 : (x8_2 : Int) ≤ ((x7_2.length : Int) : Int) := of_decide_eq_true tA; obtain ⟨i024, hi024, _, hsz24, _⟩ := info_parts info38; have hroom24 : x7_2.length ≤ co25 := (Kd.S_reads' HO_7.out).2.1; have hC24 : Kd.C (Kd.slice 2 (Kd.int .i64)) _ Ao25 x7_2.length x7_2 := (Kd.S_reads' HO_7.out).2.2; have q024 : (0 : Int) ≤ (x8_2 : Int) := of_decide_eq_true tA; have hcut24 := cut_from (P := Try.prog) 24 38 .i64 Try.underlying24 hi024 1 hsz24 Ao25 x7_2.length co25 x8_2 q024 q24; have hr24 := Kd.C_drop (m := (x8_2 : Int).toNat) (c := co25) hC24 (by omega) hroom24; obtain ⟨A24, hA24⟩ : ∃ A1, A1 = (if co25 = (x8_2 : Int).toNat then Ao25 else (Ao25 : Option Addr).map (·.add ((x8_2 : Int).toNat * 1))) := ⟨_, rfl⟩; obtain ⟨c24, hc24⟩ : ∃ c1, c1 = co25 - (x8_2 : Int).toNat := ⟨_, rfl⟩; have hy24 : y263.length = x7_2.length - (x8_2 : Int).toNat := (by rw [Ny263.out, List.length_drop] <;> omega); rw [show (x7_2).drop (x8_2 : Int).toNat = y263 from Ny263.out.symm] at hr24; replace hr24 : Kd.C (Kd.slice 2 (Kd.int .i64)) _ A24 y263.length y263 := (by rw [hA24]; exact hr24); rw [← hy24, ← hA24, ← hc24] at hcut24; have HR266 := Aq.mk hr24; have HC266 := Aq.mk (show y263.length ≤ c24 from by rw [hy24, hc24]; exact Nat.sub_le_sub_right hroom24 _); clear hr24 hC24 hroom24 hi024 hsz24 hc24; have KY24 := Aq.mk hy24; have KA24 := Aq.mk hA24; clear hy24 hA24; have KL24 := Aq.mk (show (x8_2 : Int).toNat ≤ x7_2.length from by omega); replace q24 := eq_true q24) | ((with_reducible refine gQc (f := 74) rfl ?_); refine goesL_ (some 41) rfl rfl Try.func74 (by kernel_rfl) rfl #[.slice A24 y263.length c24, .func (.func 75) #[] #[.pointer (some ⟨gb262, 0, none⟩)]] rfl tL ?_; (with_reducible refine (slices_IndexFunc_int64_int64_AT_impl_Field_reduce_1.calls k2 _ _ y263 (⟨gb262, 0, none⟩ : Addr) x34_2 t267 _ ?s1 ?s2 ?s3 A18.out).mono ?_); (case s1 => exact tC ((by repeat (first | (with_reducible exact HR266.out) | (with_reducible refine Kd.CqA ?_ _) | (with_reducible refine Kd.CqN ?_ _) | (with_reducible refine Kd.CqD ?_) | exact HR266.out)))); (case s2 => exact HC266.out); (case s3 => exact AtC.of_blk (g := gb262) (t := 2) (cs := #[.int .i64 x34_2]) (tG BK262.out) rfl); rintro e w' ⟨rfl, ⟨nd, rfl⟩⟩; refine ⟨_, rfl, ?_⟩))
    go_roundg k2
    case measure => have := HK1.out; have := HK2.out; omega
    case rel => exact ⟨x7_2, (x8_2), (wrap64 (x34_2 + 1)), tS, tS, H', ⟨by have := HK1.out; have := HK2.out; omega⟩, ⟨by (with_reducible repeat (first | apply Kd.S_alloc | apply Kd.S_drewN | apply Kd.S_drew)); exact Kd.S_mono HO_7.out (fun _ hk => trivial)⟩, ⟨tG BK248.out⟩, ⟨tB⟩⟩
   rw [if_neg c19] at H
   have c19b0 := decide_eq_false c19
   clear c19
   by_cases c26 : x8_2 < (x7_2.length : Int)
   rotate_left
   ·rw [if_neg c26] at H
    exact absurd H (by simp)
   rw [if_pos c26] at H
   have c26b0 := decide_eq_true c26
   obtain ⟨ji10, hji10⟩ : ∃ j_ : Int, (wrap64 (x8_2 + t267)) = j_ := ⟨_, rfl⟩
   simp only [hji10] at H
   have hji10w : (IntKind.i64.wrap (x8_2 + t267)) = ji10 := (i64_w _).trans hji10
   rcases Classical.em (0 ≤ ji10) with c11 | c11
   rotate_left
   ·rw [if_neg c11] at H
    exact absurd H (by simp)
   rw [if_pos c11] at H
   have c11b0 := decide_eq_true c11
   rcases Classical.em (ji10 < (x7_2.length : Int)) with c12 | c12
   rotate_left
   ·rw [if_neg c12] at H
    exact absurd H (by simp)
   rw [if_pos c12] at H
   have c12b0 := decide_eq_true c12
   obtain ⟨ysw, hysw⟩ : ∃ y_ : List (List Int), y_ = swpR x7_2 x8_2 ji10 := ⟨_, rfl⟩
   simp only [← hysw] at H
   have HLsw := Aq.mk (show ysw.length = x7_2.length by rw [hysw, swpR_length])
   have Nsw := Aq.mk hysw
   clear hysw
   obtain ⟨y253, hy253⟩ : ∃ y_ : List Int, y_ = rd_L1 ysw x8_2 := ⟨_, rfl⟩
   simp only [← hy253] at H
   have Ny253 := Aq.mk hy253
   clear hy253
   rcases Classical.em (0 ≤ x34_2) with c27 | c27
   rotate_left
   ·rw [if_neg c27] at H
    exact absurd H (by simp)
   rw [if_pos c27] at H
   have c27b0 := decide_eq_true c27
   rcases Classical.em (x34_2 < (y253.length : Int)) with c28 | c28
   rotate_left
   ·rw [if_neg c28] at H
    exact absurd H (by simp)
   rw [if_pos c28] at H
   have c28b0 := decide_eq_true c28
   have h80 : 0 ≤ x8_2 := of_decide_eq_true c16b1
   have Q := Aq.mk (show (0 ≤ x8_2 ∧ x8_2 < (x7_2.length : Int)) ∧ (0 ≤ ji10 ∧ ji10 < (x7_2.length : Int)) ∧ (0 ≤ x34_2 ∧ x34_2 < (y253.length : Int)) from ⟨⟨h80, c26⟩, ⟨c11, c12⟩, c27, c28⟩)
   clear c26 c11 c12 c27 c28 h80
   obtain ⟨t271, A29, H⟩ := qBd H
   replace H' := Aq.mk H
   clear H
   try go_wp2_with (first | ((with_reducible refine gQd (N := 11) rfl ?_); refine xQe ?hg (N := 11) ?hd (cs := #[.int .i64 0]) (t := 2) ?hr ?_; (case hd => rfl); (case hg => rfl); (case hr => exact tH); intro gb262 hg w30 hbox hb; refine qM8 (Kd.S_below (Kd.S_elderB (by (with_reducible repeat (first | apply Kd.S_alloc | apply Kd.S_drewN | apply Kd.S_drew)); exact HO_7.out) gb262 (Nat.le_of_eq hg.symm)) hb) (tQ BK248.out hb) (bQT tB hb) hbox (tZ w hg) (tZ w hg) ((by rw [hg]; exact Nat.ne_of_lt (blk_lt (g := gb248) (o := .cells #[.int .i64 a0_0, .int .i64 a0_1] 28 (0, 0)) (tG BK248.out)) : gb248 ≠ gb262)) ((by rw [hg]; exact Nat.ne_of_gt (blk_lt (g := gb248) (o := .cells #[.int .i64 a0_0, .int .i64 a0_1] 28 (0, 0)) (tG BK248.out)) : gb262 ≠ gb248)) ?_; clear HO_7 BK248 HB; intro HO_7 BK248 HB BK262 GW262 GE262 NB248_262 NB262_248; clear hb hbox hg; have hnb31 := NB262_248.out; have hnc31 := NB248_262.out; have hcz32_0 : w30.cell? ⟨gb262, 0, none⟩ = some (.int .i64 0) := (kQC BK262.out 0).trans rfl; have hfz32_0 := kQF BK262.out 0) | ((with_reducible refine gate_store (t := 2) (p := 11) rfl ?_); refine store_event (t := 2) (p := 11) (v := ?vo_w33) (w1 := (w30.setCell ⟨gb262, 0, none⟩ (.int .i64 x34_2))) ?hg ?ho ?hn ?hr ?_; (case ho => rfl); (case hg => rfl); (case hn => rfl); (case hr => exact tH); intro w33 hw; have n0_ : Aq (Kd.S (Kd.slice 2 (Kd.int .i64)) 38 w33 w.heap.size (fun k_ => k_ ≠ gb262) u7 x7_2) := ⟨(by rw [hw]; exact (by (with_reducible repeat (first | apply Kd.S_alloc | apply Kd.S_drewN | apply Kd.S_drew)); exact Kd.S_mono (Kd.S_far (p := ⟨gb262, 0, none⟩) (Kd.S_mono HO_7.out (fun k_ hk => (⟨hk, hk.2⟩ : _ ∧ k_ ≠ gb262))) (fun _ hk => hk.2) (.int .i64 x34_2)) (fun _ hk => hk.1.2)))⟩; have n1_ : Aq (w33.heap[gb248]? = some (.cells #[.int .i64 a0_0, .int .i64 a0_1] 28 (0, 0))) := ⟨(by rw [hw]; exact (by (with_reducible repeat (first | refine kQN ?_ _ | refine kQD ?_ | refine kQA ?_ _)); refine kQR ?_ NB248_262.out _; (with_reducible repeat (first | refine kQN ?_ _ | refine kQD ?_ | refine kQA ?_ _)); exact BK248.out))⟩; have n2_ : Aq (w33.heap[gb262]? = some (.cells #[.int .i64 x34_2] 2 (0, 0))) := ⟨(by rw [hw]; exact (by (with_reducible repeat (first | refine kQN ?_ _ | refine kQD ?_ | refine kQA ?_ _)); refine kQP (cs := #[.int .i64 0]) ?_ 0 _ rfl; (with_reducible repeat (first | refine kQN ?_ _ | refine kQD ?_ | refine kQA ?_ _)); exact BK262.out))⟩; have n3_ : Aq (Below w.heap.size w w33) := ⟨(by rw [hw]; exact tB)⟩; clear hw; clear HO_7; clear BK248; clear BK262; clear HB; have HO_7 := n0_; have BK248 := n1_; have BK262 := n2_; have HB := n3_; clear n0_ n1_ n2_ n3_; obtain ⟨Ao35, co35, eo35⟩ := Kd.S_slice HO_7.out; subst eo35; have q34 : (x8_2 : Int) ≤ ((x7_2.length : Int) : Int) := of_decide_eq_true tA; obtain ⟨i034, hi034, _, hsz34, _⟩ := info_parts info38; have hroom34 : x7_2.length ≤ co35 := (Kd.S_reads' HO_7.out).2.1; have hC34 : Kd.C (Kd.slice 2 (Kd.int .i64)) _ Ao35 x7_2.length x7_2 := (Kd.S_reads' HO_7.out).2.2; have q034 : (0 : Int) ≤ (x8_2 : Int) := of_decide_eq_true tA; have hcut34 := cut_from (P := Try.prog) 24 38 .i64 Try.underlying24 hi034 1 hsz34 Ao35 x7_2.length co35 x8_2 q034 q34; have hr34 := Kd.C_drop (m := (x8_2 : Int).toNat) (c := co35) hC34 (by omega) hroom34; obtain ⟨A34, hA34⟩ : ∃ A1, A1 = (if co35 = (x8_2 : Int).toNat then Ao35 else (Ao35 : Option Addr).map (·.add ((x8_2 : Int).toNat * 1))) := ⟨_, rfl⟩; obtain ⟨c34, hc34⟩ : ∃ c1, c1 = co35 - (x8_2 : Int).toNat := ⟨_, rfl⟩; have hy34 : y263.length = x7_2.length - (x8_2 : Int).toNat := (by rw [Ny263.out, List.length_drop] <;> omega); rw [show (x7_2).drop (x8_2 : Int).toNat = y263 from Ny263.out.symm] at hr34; replace hr34 : Kd.C (Kd.slice 2 (Kd.int .i64)) _ A34 y263.length y263 := (by rw [hA34]; exact hr34); rw [← hy34, ← hA34, ← hc34] at hcut34; have HR266 := Aq.mk hr34; have HC266 := Aq.mk (show y263.length ≤ c34 from by rw [hy34, hc34]; exact Nat.sub_le_sub_right hroom34 _); clear hr34 hC34 hroom34 hi034 hsz34 hc34; have KY34 := Aq.mk hy34; have KA34 := Aq.mk hA34; clear hy34 hA34; have KL34 := Aq.mk (show (x8_2 : Int).toNat ≤ x7_2.length from by omega); replace q34 := eq_true q34) | ((with_reducible refine gQc (f := 74) rfl ?_); refine goesL_ (some 41) rfl rfl Try.func74 (by kernel_rfl) rfl #[.slice A34 y263.length c34, .func (.func 75) #[] #[.pointer (some ⟨gb262, 0, none⟩)]] rfl tL ?_; (with_reducible refine (slices_IndexFunc_int64_int64_AT_impl_Field_reduce_1.calls k2 _ _ y263 (⟨gb262, 0, none⟩ : Addr) x34_2 t267 _ ?s1 ?s2 ?s3 A18.out).mono ?_); (case s1 => exact tC ((by repeat (first | (with_reducible exact HR266.out) | (with_reducible refine Kd.CqA ?_ _) | (with_reducible refine Kd.CqN ?_ _) | (with_reducible refine Kd.CqD ?_) | exact HR266.out)))); (case s2 => exact HC266.out); (case s3 => exact AtC.of_blk (g := gb262) (t := 2) (cs := #[.int .i64 x34_2]) (tG BK262.out) rfl); rintro e w' ⟨rfl, ⟨nd, rfl⟩⟩; refine ⟨_, rfl, ?_⟩))
   (try (rw [drewN_self w33]; generalize hq_ : World.drewN w33 _ = w33; have n0_ : Aq (Kd.S (Kd.slice 2 (Kd.int .i64)) 38 w33 w.heap.size (fun k_ => k_ ≠ gb262) (.slice Ao35 x7_2.length co35) x7_2) := ⟨by rw [← hq_]; exact (by (with_reducible repeat (first | apply Kd.S_alloc | apply Kd.S_drewN | apply Kd.S_drew)); exact HO_7.out)⟩; have n1_ : Aq (w33.heap[gb248]? = some (.cells #[.int .i64 a0_0, .int .i64 a0_1] 28 (0, 0))) := ⟨by rw [← hq_]; exact (tG BK248.out)⟩; have n2_ : Aq (w33.heap[gb262]? = some (.cells #[.int .i64 x34_2] 2 (0, 0))) := ⟨by rw [← hq_]; exact (tG BK262.out)⟩; have n3_ : Aq (Below w.heap.size w w33) := ⟨by rw [← hq_]; exact tB⟩; have n4_ : Aq (Kd.C (Kd.slice 2 (Kd.int .i64)) w33 A34 y263.length y263) := ⟨by rw [← hq_]; exact (by repeat (first | (with_reducible exact HR266.out) | (with_reducible refine Kd.CqA ?_ _) | (with_reducible refine Kd.CqN ?_ _) | (with_reducible refine Kd.CqD ?_) | exact HR266.out))⟩; clear HO_7 BK248 BK262 HB HR266 hq_; have HO_7 := n0_; have BK248 := n1_; have BK262 := n2_; have HB := n3_; have HR266 := n4_; clear n0_ n1_ n2_ n3_ n4_))
   clear HR266
   have n0_ := Aq.mk (Kd.S_drew HO_7.out)
   have n1_ := Aq.mk (kQD BK248.out)
   have n2_ := Aq.mk (kQD BK262.out)
   have n3_ := Aq.mk (bQ1 HB.out)
   clear HO_7
   clear BK248
   clear BK262
   clear HB
   have HO_7 := n0_
   have BK248 := n1_
   have BK262 := n2_
   have HB := n3_
   clear n0_ n1_ n2_ n3_
   obtain ⟨gx7, cx7, ex7, _, _, _⟩ := Kd.S_form HO_7.out (by have := Q.out; omega)
   injection ex7 with ex7a ex7b ex7c
   subst ex7a
   subst ex7c
   clear ex7b
   have p240 : (0 ≤ ji10) = True := eq_true Q.out.2.1.1
   have q240 : (ji10 < (x7_2.length : Int)) = True := eq_true Q.out.2.1.2
   have p241 : (0 ≤ x8_2) = True := eq_true Q.out.1.1
   have q241 : (x8_2 < (x7_2.length : Int)) = True := eq_true Q.out.1.2
   obtain ⟨Asi, csi, hxi, _, _⟩ := rows_cell HO_7.out Q.out.1.1 Q.out.1.2
   obtain ⟨Asj, csj, hxj, _, _⟩ := rows_cell HO_7.out Q.out.2.1.1 Q.out.2.1.2
   have hfi := rows_frozen HO_7.out (by have := Q.out; omega) x8_2.toNat
   obtain ⟨hSW, hgW, hxj2, hfj2⟩ := rows_swap HO_7.out Q.out.1.1 Q.out.1.2 Q.out.2.1.1 Q.out.2.1.2 hxi hxj
   have HSW := Aq.mk hSW
   have HGW := Aq.mk hgW
   clear hSW hgW
   generalize hni : (rd_L1 x7_2 x8_2).length = ni at hxi HSW HGW
   generalize hnj : (rd_L1 x7_2 ji10).length = nj at hxj hxj2 hfj2 HSW HGW
   refine start_ (n := 20) (S := fun w' => w'.cell? ⟨gx7, ji10.toNat, none⟩ = some (.slice Asj nj csj) ∧ w'.cell? ⟨gx7, x8_2.toNat, none⟩ = some (.slice Asi ni csi)) (ds := [17, 19]) #[false, false, false, false, false, false, false, false, false, false, false, false, false, false, false, false, false, false, false, false] (by kernel_rfl) rfl rfl ⟨hxj, hxi⟩ (fun hHeld => ?_); refine with_tabW impl_Field_reduce.tab12 impl_Field_reduce.bits12 (fun HT_ HW_ => ?_)
   generalize w33.drew = w21 at HO_7 BK248 BK262 HB HSW HGW hxi hxj hxj2 hfi hfj2 hHeld ⊢
   refine tP0 0 44 (bm 20 1) ?_
   refine tP0 1 45 (bm 20 3) ?_
   refine tP0 2 46 (bm 20 7) ?_
   refine tP0 3 47 (bm 20 15) ?_
   refine tP0 4 48 (bm 20 31) ?_
   refine tP0 5 49 (bm 20 63) ?_
   refine tP0 6 50 (bm 20 127) ?_
   refine tP0 7 51 (bm 20 255) ?_
   refine tP0 8 52 (bm 20 511) ?_
   refine tP0 9 53 (bm 20 1023) ?_
   refine tP0 10 54 (bm 20 2047) ?_
   refine tP0 12 56 (bm 20 6143) ?_
   refine tP0 13 57 (bm 20 14335) ?_
   refine tP0 14 58 (bm 20 30719) ?_
   refine tT2 11 55 (bm 20 32767) ?_
   refine tT2 15 59 (bm 20 65535) ?_
   refine tP0 16 60 (bm 20 131071) ?_
   refine last_ (i := 17) (N := none) #[true, true, true, true, true, true, true, true, true, true, true, true, true, true, true, true, true, true, false, false] rfl rfl (one_of HT_.out (by kernel_rfl)) (by decide) (fun K hK => ?_)
   refine skip_ (w1 := ?_) (by rfl) rfl ?_ ?_
   rotate_left
   ·go_simp
    rfl
   refine hK.out _ _ ?_
   clear hK K
   refine tP0 18 61 (bm 20 524287) ?_
   refine last_ (i := 19) (N := none) #[true, true, true, true, true, true, true, true, true, true, true, true, true, true, true, true, true, true, true, true] rfl rfl (one_of HT_.out (by kernel_rfl)) (by decide) (fun K hK => ?_)
   refine skip_ (w1 := ?_) (by rfl) rfl ?_ ?_
   rotate_left
   ·go_simp
    rfl
   refine hK.out _ _ ?_
   clear hK K
   refine done_ (done_of HT_.out (by kernel_rfl)) ?_
   try go_wp2
   have n0_ : Aq (RowsS ((w21.setCell ⟨gx7, x8_2.toNat, none⟩ (.slice Asj nj csj)).setCell ⟨gx7, ji10.toNat, none⟩ (.slice Asi ni csi)) w.heap.size (fun k_ => k_ ≠ gb262) gx7 x7_2.length co35 ysw) := ⟨by rw [Nsw.out]; exact HSW.out⟩
   have n1_ : Aq (((w21.setCell ⟨gx7, x8_2.toNat, none⟩ (.slice Asj nj csj)).setCell ⟨gx7, ji10.toNat, none⟩ (.slice Asi ni csi)).heap[gb248]? = some (.cells #[.int .i64 a0_0, .int .i64 a0_1] 28 (0, 0))) := ⟨blk_grown BK248.out HGW.out (Kd.S_ne HO_7.out BK248.out (by decide))⟩
   have n2_ : Aq (((w21.setCell ⟨gx7, x8_2.toNat, none⟩ (.slice Asj nj csj)).setCell ⟨gx7, ji10.toNat, none⟩ (.slice Asi ni csi)).heap[gb262]? = some (.cells #[.int .i64 x34_2] 2 (0, 0))) := ⟨blk_grown BK262.out HGW.out (by have h_ := HO_7.out; intro e_; exact (Kd.S_R h_).1 gb262 (by simpa [Value.ownBlock] using e_.symm) rfl)⟩
   have n3_ : Aq (Below w.heap.size w ((w21.setCell ⟨gx7, x8_2.toNat, none⟩ (.slice Asj nj csj)).setCell ⟨gx7, ji10.toNat, none⟩ (.slice Asi ni csi))) := ⟨Below.grown HB.out HGW.out (bQZ HB.out) (fun k_ hk_ => Kd.S_base HO_7.out k_ (by simpa [Value.ownBlock] using hk_))⟩
   clear HO_7 BK248 BK262 HB HSW HGW hxi hxj hxj2 hfi hfj2 hHeld
   generalize ((w21.setCell ⟨gx7, x8_2.toNat, none⟩ (.slice Asj nj csj)).setCell ⟨gx7, ji10.toNat, none⟩ (.slice Asi ni csi)) = w34 at n0_ n1_ n2_ n3_ ⊢
   have HO_7 := n0_
   have BK248 := n1_
   have BK262 := n2_
   have HB := n3_
   clear n0_ n1_ n2_ n3_
   have n0_ := Aq.mk (Kd.S_drew HO_7.out)
   have n1_ := Aq.mk (kQD BK248.out)
   have n2_ := Aq.mk (kQD BK262.out)
   have n4_ := Aq.mk (bQ1 HB.out)
   clear HO_7
   clear BK248
   clear BK262
   clear HB
   have HO_7 := n0_
   have BK248 := n1_
   have BK262 := n2_
   have HB := n4_
   clear n0_ n1_ n2_ n4_
   obtain ⟨A268_0, c268_0, hx268_0, _, hi268_0⟩ := rows_cell HO_7.out Q.out.1.1 Q.out.1.2
   rw [← Ny253.out] at hx268_0 hi268_0
   obtain ⟨ad270, e270, hx270_0⟩ := Kd.at_int hi268_0 x34_2 Q.out.2.2.1 Q.out.2.2.2
   cases e270
   clear hi268_0
   have p270 : (0 ≤ x34_2) = True := eq_true Q.out.2.2.1
   have q270 : (x34_2 < (y253.length : Int)) = True := eq_true Q.out.2.2.2
   have hx269_0 := hx268_0
   refine start_ (n := 15) (S := fun w' => w'.cell? ⟨gb248, 0, none⟩ = some (.int .i64 a0_0) ∧ w'.cell? ⟨gb248, 1, none⟩ = some (.int .i64 a0_1) ∧ w'.cell? ⟨gb262, 0, none⟩ = some (.int .i64 x34_2) ∧ w'.cell? ⟨gx7, x8_2.toNat, none⟩ = some (.slice (some ad270) y253.length c268_0) ∧ w'.cell? ⟨gx7, x8_2.toNat, none⟩ = some (.slice (some ad270) y253.length c268_0) ∧ w'.cell? (ad270.add (x34_2).toNat) = some (.int .i64 (rd y253 x34_2))) (ds := []) #[false, false, false, false, false, false, false, false, false, false, false, false, false, false, false] (by kernel_rfl) rfl rfl ⟨(kQC BK248.out 0).trans rfl, (kQC BK248.out 1).trans rfl, (kQC BK262.out 0).trans rfl, hx268_0, hx269_0, hx270_0⟩ (fun hHeld => ?_); refine with_tabW impl_Field_reduce.tab13 impl_Field_reduce.bits13 (fun HT_ HW_ => ?_)
   generalize w34.drew = w36 at HO_7 BK248 BK262 HB hx268_0 hx269_0 hx270_0 hHeld ⊢
   refine tP0 0 62 (bm 15 1) ?_
   refine tP0 1 63 (bm 15 3) ?_
   refine tP0 2 64 (bm 15 7) ?_
   refine tP0 5 67 (bm 15 39) ?_
   refine tP0 6 68 (bm 15 103) ?_
   refine tP0 7 69 (bm 15 231) ?_
   refine tT6 3 65 (bm 15 239) ?_
   refine tT6 4 66 (bm 15 255) ?_
   refine tT6 8 70 (bm 15 511) ?_
   refine tT6 9 71 (bm 15 1023) ?_
   refine tP0 10 72 (bm 15 2047) ?_
   refine tT6 11 73 (bm 15 4095) ?_
   refine one_ (i := 12) (N := some 74) (bm 15 8191) rfl rfl (one_of HT_.out (by kernel_rfl)) (by decide) (fun K hK => ?_)
   refine goes_ Try.func76 (by kernel_rfl) rfl #[.agg #[.int .i64 a0_0, .int .i64 a0_1], .int .i64 (rd y253 x34_2)] (by rfl) rfl rfl tL ?_
   with_reducible refine (impl_Field_inverse.calls k2 a0_0 a0_1 (rd y253 x34_2) t271 _ A29.out).mono ?_
   rintro e w37 ⟨rfl, hb⟩
   have HS3_ := (hb.cell (World.block_lt_of_cell? _ _ (hHeld.2.2.2.1))).trans (hHeld.2.2.2.1)
   have HS4_ := (hb.cell (World.block_lt_of_cell? _ _ (hHeld.2.2.2.2.1))).trans (hHeld.2.2.2.2.1)
   have HS5_ := (hb.cell (World.block_lt_of_cell? _ _ (hHeld.2.2.2.2.2))).trans (hHeld.2.2.2.2.2)
   refine ⟨_, rfl, ?_⟩
   have n0_ := Aq.mk (Kd.S_below (by (with_reducible repeat (first | apply Kd.S_alloc | apply Kd.S_drewN | apply Kd.S_drew)); exact HO_7.out) hb)
   have n3_ := Aq.mk (tQ BK248.out hb)
   have n4_ := Aq.mk (tQ BK262.out hb)
   have n8_ := Aq.mk (bQT tB hb)
   clear HO_7
   clear BK248
   clear BK262
   clear HB
   have HO_7 := n0_
   have BK248 := n3_
   have BK262 := n4_
   have HB := n8_
   clear n0_ n3_ n4_ n8_
   (try clear hb)
   (try clear hb2)
   (try clear hk)
   (try clear hi)
   refine hK.out _ _ ⟨(kQC BK248.out 0).trans rfl, (kQC BK248.out 1).trans rfl, (kQC BK262.out 0).trans rfl, HS3_, HS4_, HS5_⟩ (fun hHeld => ?_)
   clear hK K
   refine tN 74 ?_
   refine tP0 13 13 (bm 15 16383) ?_
   refine tP0 14 14 (bm 15 32767) ?_
   refine done_ (done_of HT_.out (by kernel_rfl)) ?_
   have hx268_1 := hHeld.2.2.2.1
   clear hHeld hx268_0 hx269_0 hx270_0
   obtain ⟨okd, hRd, hHd, hokd⟩ := rows_lend HO_7.out Q.out.1.1 Q.out.1.2 hx268_1
   rw [← Ny253.out] at hRd
   have HO_13 := Aq.mk hRd
   have HH := Aq.mk hHd
   have HKd := Aq.mk hokd
   have HCd := Aq.mk hx268_1
   clear hRd hHd hokd hx268_1 HO_7
   generalize hvo : (Value.slice (some ad270) y253.length c268_0) = vown at HO_13 HH HCd
   subst hvo
   try go_wp2
   go_loopg [77] k2 (fun kq v77 w' => ∃ (x13_3 : List Int) (x77_3 : Int), v77 = .int .i64 x77_3 ∧ Aq (impl_Field_reduce.l2 kq ysw x8_2 x13_3 t271 a1 x34_2 (y253.length : Int) x77_3 a0_0 a0_1 = some r) ∧ Aq (kq ≤ k2) ∧ Aq (RowsH w' w.heap.size (fun k_ => k_ ≠ gb262) gx7 x7_2.length co35 ysw x8_2 okd (.slice (some ad270) y253.length c268_0)) ∧ Aq (Kd.R (Kd.int .i64) 2 w' w.heap.size okd (.slice (some ad270) y253.length c268_0) x13_3) ∧ Aq (w'.cell? ⟨gx7, x8_2.toNat, none⟩ = some (.slice (some ad270) y253.length c268_0)) ∧ Aq (w'.heap[gb248]? = some (.cells #[.int .i64 a0_0, .int .i64 a0_1] 28 (0, 0))) ∧ Aq (w'.heap[gb262]? = some (.cells #[.int .i64 x34_2] 2 (0, 0))) ∧ Aq (Below w.heap.size w w'))
   case atStart => exact ⟨y253, 0, tS, H', ⟨Nat.le_refl _⟩, ⟨by (with_reducible repeat (first | apply Kd.H_alloc | apply Kd.H_drewN | apply Kd.H_drew)); exact HH.out⟩, ⟨tR HO_13.out⟩, ⟨HCd.out⟩, ⟨tG BK248.out⟩, ⟨tG BK262.out⟩, ⟨tB⟩⟩
   clear H' HH HO_13 HCd BK248 BK262 HB
   try clear c1
   try clear c2
   try clear c7b0
   try clear c8b0
   try clear c9b0
   try clear c15b0
   try clear c16b0
   try clear c16b1
   try clear c17b0
   try clear c17b1
   try clear c19b0
   try clear c26b0
   try clear c11b0
   try clear c12b0
   try clear c27b0
   try clear c28b0
   try clear hcz32_0
   try clear hfz32_0
   try clear hx252_0
   try clear p252
   try clear q252
   try clear p240
   try clear q240
   try clear p241
   try clear q241
   try clear p270
   try clear q270
   obtain ⟨x13_3, x77_3, rfl, HA, HK3, HO_7, HO_13, HCd, BK248, BK262, HB⟩ := hrel
   have hl13_3 := (Kd.R_reads' HO_13.out).1
   rw [hl13_3] at HO_13
   (try simp only [hl13_3])
   (try simp only [hl13_3] at BK248)
   (try simp only [hl13_3] at BK262)
   (try simp only [hl13_3] at HO_7)
   (try simp only [hl13_3] at HCd)
   cases gk with
   | zero => exact absurd HA.out (by simp [impl_Field_reduce.l2])
   | succ k3 =>
    have H := HA.out
    clear HA
    simp only [impl_Field_reduce.l2] at H
    by_cases c24 : x77_3 < (y253.length : Int)
    ·rw [if_pos c24] at H
     have c24b0 := decide_eq_true c24
     clear c24
     (try (have c24b0z := c24b0; simp only [hl13_3] at c24b0z))
     by_cases c25 : 0 ≤ x77_3
     rotate_left
     ·rw [if_neg c25] at H
      exact absurd H (by simp)
     rw [if_pos c25] at H
     have c25b0 := decide_eq_true c25
     clear c25
     (try (have c25b0z := c25b0; simp only [hl13_3] at c25b0z))
     by_cases c26 : x77_3 < (x13_3.length : Int)
     rotate_left
     ·rw [if_neg c26] at H
      exact absurd H (by simp)
     rw [if_pos c26] at H
     have c26b0 := decide_eq_true c26
     clear c26
     (try (have c26b0z := c26b0; simp only [hl13_3] at c26b0z))
     obtain ⟨t257, A27, H⟩ := qBd H
     obtain ⟨y258, hy258⟩ : ∃ y_ : List Int, y_ = (x13_3.set (x77_3 : Int).toNat t257) := ⟨_, rfl⟩
     replace H : (impl_Field_reduce.l2 k3 ysw x8_2 y258 t271 a1 x34_2 (y253.length : Int) (wrap64 (x77_3 + 1)) a0_0 a0_1) = some r := by first | (rw [hy258]; with_reducible exact H) | (have H2_ := (Option.bind_some _ _).symm.trans H; rw [hy258]; with_reducible exact H2_) | (have H2_ := (Option.bind_some _ _).symm.trans H; with_reducible exact H2_) | with_reducible exact H | (rw [hy258]; exact H) | exact H
     have Ny258 := Aq.mk hy258
     clear hy258
     replace H' := Aq.mk H
     clear H
     try go_wp2
     have n0_ := Aq.mk (Kd.H_drew HO_7.out)
     have n1_ := Aq.mk (Kd.RqD HO_13.out)
     have n2_ := Aq.mk (kQD BK248.out)
     have n3_ := Aq.mk (kQD BK262.out)
     have n4_ := Aq.mk (bQ1 HB.out)
     clear HO_7
     clear HO_13
     clear BK248
     clear BK262
     clear HB
     have HO_7 := n0_
     have HO_13 := n1_
     have BK248 := n2_
     have BK262 := n3_
     have HB := n4_
     clear n0_ n1_ n2_ n3_ n4_
     have p256 : 0 ≤ (x77_3 : Int) := of_decide_eq_true tA
     have q256 : x77_3 < (x13_3.length : Int) := of_decide_eq_true tA
     obtain ⟨ad256, e256, hx256_0⟩ := Kd.at_int (Kd.R_reads' HO_13.out).2.2 x77_3 p256 q256
     cases e256
     replace p256 := eq_true p256
     replace q256 := eq_true q256
     refine start_ (n := 11) (S := fun w' => w'.cell? ⟨gb248, 0, none⟩ = some (.int .i64 a0_0) ∧ w'.cell? ⟨gb248, 1, none⟩ = some (.int .i64 a0_1) ∧ w'.cell? (ad270.add (x77_3).toNat) = some (.int .i64 (rd x13_3 x77_3))) (ds := [10]) #[false, false, false, false, false, false, false, false, false, false, false] (by kernel_rfl) rfl rfl ⟨(kQC BK248.out 0).trans rfl, (kQC BK248.out 1).trans rfl, hx256_0⟩ (fun hHeld => ?_); refine with_tabW impl_Field_reduce.tab17 impl_Field_reduce.bits17 (fun HT_ HW_ => ?_)
     have HCd2 : Aq (wr.drew.cell? ⟨gx7, x8_2.toNat, none⟩ = some (.slice (some ad270) x13_3.length c268_0)) := ⟨HCd.out⟩
     clear HCd
     have HCd := HCd2
     clear HCd2
     generalize wr.drew = w29 at HCd HO_7 HO_13 BK248 BK262 HB hx256_0 hHeld ⊢
     refine tP0 0 80 (bm 11 1) ?_
     refine tP0 1 81 (bm 11 3) ?_
     refine tP0 3 83 (bm 11 11) ?_
     refine tP0 4 84 (bm 11 27) ?_
     refine tP0 5 85 (bm 11 59) ?_
     refine tP0 7 87 (bm 11 187) ?_
     refine tT3 2 82 (bm 11 191) ?_
     refine tT3 6 86 (bm 11 255) ?_
     refine one_ (i := 8) (N := some 88) (bm 11 511) rfl rfl (one_of HT_.out (by kernel_rfl)) (by decide) (fun K hK => ?_)
     refine goes_ Try.func77 (by kernel_rfl) rfl #[.agg #[.int .i64 a0_0, .int .i64 a0_1], .int .i64 (rd x13_3 x77_3), .int .i64 t271] (by rfl) rfl rfl tL ?_
     with_reducible refine (impl_Field_mul.calls k3 a0_0 a0_1 (rd x13_3 x77_3) t271 t257 _ A27.out).mono ?_
     rintro e w30 ⟨rfl, hb⟩
     have nc_ := Aq.mk ((hb.cell (World.block_lt_of_cell? _ _ HCd.out)).trans HCd.out)
     clear HCd
     have HCd := nc_
     clear nc_
     have HS2_ := (hb.cell (World.block_lt_of_cell? _ _ (hHeld.2.2))).trans (hHeld.2.2)
     refine ⟨_, rfl, ?_⟩
     have n0_ := Aq.mk (Kd.H_below (by (with_reducible repeat (first | apply Kd.H_alloc | apply Kd.H_drewN | apply Kd.H_drew)); exact HO_7.out) hb)
     have n1_ := Aq.mk (Kd.R_below (tR HO_13.out) hb)
     have n2_ := Aq.mk (tQ BK248.out hb)
     have n3_ := Aq.mk (tQ BK262.out hb)
     have n4_ := Aq.mk (bQT tB hb)
     clear HO_7
     clear HO_13
     clear BK248
     clear BK262
     clear HB
     have HO_7 := n0_
     have HO_13 := n1_
     have BK248 := n2_
     have BK262 := n3_
     have HB := n4_
     clear n0_ n1_ n2_ n3_ n4_
     (try clear hb)
     (try clear hb2)
     (try clear hk)
     (try clear hi)
     have p28 : 0 ≤ (x77_3 : Int) := of_decide_eq_true tA
     have q28 : (x77_3 : Int) < ((x13_3.length : Int) : Int) := of_decide_eq_true tA
     obtain ⟨go28, co28, eo28, gb28, gl28, cl28, HG28⟩ := Kd.R_form HO_13.out (by omega)
     (first | cases eo28 | (injection eo28 with ea_ en_ ec_; (first | subst ea_ | (injection ea_ with ea_; subst ea_)); subst ec_; clear en_))
     have GB28 := Aq.mk gb28
     have GG28 := Aq.mk HG28
     clear gb28 gl28 HG28
     (first | simp only [add_plain] at hx256_0 | skip)
     obtain ⟨hx28_0, hf28_0⟩ := Kd.R_celln 0 HO_13.out (x77_3 : Int) p28 q28
     replace p28 := eq_true p28
     replace q28 := eq_true q28
     have HP31 := Kd.R_putn HO_13.out (x77_3 : Int) t257
     rw [← Ny258.out] at HP31
     have HQ31 := Aq.mk HP31
     clear HP31
     refine hK.out _ _ ⟨(kQC BK248.out 0).trans rfl, (kQC BK248.out 1).trans rfl, HS2_⟩ (fun hHeld => ?_)
     clear hK K
     refine tN 88 ?_
     refine tP0 9 89 (bm 11 1023) ?_
     refine last_ (i := 10) (N := none) #[true, true, true, true, true, true, true, true, true, true, true] rfl rfl (one_of HT_.out (by kernel_rfl)) (by decide) (fun K hK => ?_)
     refine skip_ (w1 := ?_) (by rfl) rfl ?_ ?_
     rotate_left
     ·go_simp
      rfl
     refine hK.out _ _ ?_
     clear hK K
     refine done_ (done_of HT_.out (by kernel_rfl)) ?_
     try go_wp2
     (try simp only [← hl13_3])
     go_roundg k3
     case measure => have := HK1.out; have := HK2.out; have := HK3.out; omega
     case rel => exact ⟨y258, (wrap64 (x77_3 + 1)), tS, H', ⟨by have := HK1.out; have := HK2.out; have := HK3.out; omega⟩, ⟨by (try simp only [hl13_3]); (with_reducible repeat (first | apply Kd.H_alloc | apply Kd.H_drewN | apply Kd.H_drew)); exact Kd.H_grown HO_7.out (Kd.R_putg HO_13.out (x77_3 : Int) t257).2 (fun k_ hk_ => HO_13.out.1 k_ (by simpa [Value.ownBlock] using hk_))⟩, ⟨by (try simp only [hl13_3]); (with_reducible repeat (first | apply Kd.RqA | apply Kd.RqN | apply Kd.RqD)); exact HQ31.out⟩, ⟨by (try simp only [hl13_3]); exact (cell_far (p := ⟨go28, (x77_3 : Int).toNat, none⟩) (fun e_ => (HKd.out go28 (HO_13.out.1 go28 (by simp [Value.ownBlock]))).2 e_.symm) (.int .i64 t257)).trans HCd.out⟩, ⟨by (try simp only [hl13_3]); (with_reducible repeat (first | refine kQN ?_ _ | refine kQD ?_ | refine kQA ?_ _)); refine kQR ?_ (by have h_ := Kd.R_ne HO_13.out BK248.out (by decide); intro e_; exact h_ (by rw [e_]; rfl)) _; (with_reducible repeat (first | refine kQN ?_ _ | refine kQD ?_ | refine kQA ?_ _)); exact BK248.out⟩, ⟨by (try simp only [hl13_3]); (with_reducible repeat (first | refine kQN ?_ _ | refine kQD ?_ | refine kQA ?_ _)); refine kQR ?_ (fun e_ => (HKd.out go28 (HO_13.out.1 go28 (by simp [Value.ownBlock]))).1 e_.symm) _; (with_reducible repeat (first | refine kQN ?_ _ | refine kQD ?_ | refine kQA ?_ _)); exact BK262.out⟩, ⟨by repeat (first | (with_reducible first | exact HB.out | apply bQA | apply bQN | apply bQ1 | refine bQS ?_ GB28.out | refine bQS ?_ GE248.out | refine bQS ?_ GE262.out) | exact HB.out)⟩⟩
    rw [if_neg c24] at H
    have c24b0 := decide_eq_false c24
    clear c24
    (try (have c24b0z := c24b0; simp only [hl13_3] at c24b0z))
    rw [HLsw.out] at H
    have HS := Aq.mk (rows_back HO_7.out HO_13.out)
    obtain ⟨x7_4, hx74⟩ : ∃ y_ : List (List Int), y_ = ysw.set (x8_2 : Int).toNat x13_3 := ⟨_, rfl⟩
    rw [← hx74] at H HS
    have HL74 := Aq.mk (show x7_4.length = x7_2.length by rw [hx74, List.length_set]; exact HLsw.out)
    clear hx74 HO_7 HO_13
    replace H' := Aq.mk H
    clear H
    go_wp2
    go_loopg [93] k3 (fun kq v93 w' => ∃ (x7_5 : List (List Int)) (x93_3 : Int), v93 = .int .i64 x93_3 ∧ Aq (impl_Field_reduce.l3 kq x7_5 x8_2 a1 x34_2 (x7_2.length : Int) x93_3 a0_0 a0_1 = some r) ∧ Aq (kq ≤ k3) ∧ Aq (RowsS w' w.heap.size (fun k_ => k_ ≠ gb262) gx7 x7_2.length co35 x7_5) ∧ Aq (w'.cell? ⟨gx7, x8_2.toNat, none⟩ = some (.slice (some ad270) x13_3.length c268_0)) ∧ Aq (w'.heap[gb248]? = some (.cells #[.int .i64 a0_0, .int .i64 a0_1] 28 (0, 0))) ∧ Aq (w'.heap[gb262]? = some (.cells #[.int .i64 x34_2] 2 (0, 0))) ∧ Aq (Below w.heap.size w w'))
    case atStart => exact ⟨x7_4, 0, tS, H', ⟨Nat.le_refl _⟩, ⟨by (with_reducible repeat (first | apply Kd.S_alloc | apply Kd.S_drewN | apply Kd.S_drew)); exact HS.out⟩, ⟨HCd.out⟩, ⟨tG BK248.out⟩, ⟨tG BK262.out⟩, ⟨tB⟩⟩
    clear H' HS HCd BK248 BK262 HB HL74
    try clear c24b0
    try clear c24b0z
    obtain ⟨x7_5, x93_3, rfl, HA, HK4, HO_7, HCd, BK248, BK262, HB⟩ := hrel
    have HL75 := Aq.mk ((Kd.S_reads' HO_7.out).1)
    cases gk with
    | zero => exact absurd HA.out (by simp [impl_Field_reduce.l3])
    | succ k4 =>
     have H := HA.out
     clear HA
     simp only [impl_Field_reduce.l3] at H
     by_cases c24 : x93_3 < (x7_2.length : Int)
     rotate_left
     ·rw [if_neg c24] at H
      have c24b0 := decide_eq_false c24
      clear c24
      replace H' := Aq.mk H
      clear H
      go_wp2
      have HLx := Aq.mk (show x7_2.length = x7_5.length from HL75.out)
      go_roundg k4
      case measure => have := HK1.out; have := HK2.out; have := HK3.out; have := HK4.out; omega
      case rel => exact ⟨x7_5, (wrap64 (x8_2 + 1)), (wrap64 (x34_2 + 1)), tS, tS, H', ⟨by have := HK1.out; have := HK2.out; have := HK3.out; have := HK4.out; omega⟩, ⟨by (with_reducible repeat (first | apply Kd.S_alloc | apply Kd.S_drewN | apply Kd.S_drew)); exact Kd.S_mono HO_7.out (fun _ _ => trivial)⟩, ⟨tG BK248.out⟩, ⟨tB⟩⟩
     rw [if_pos c24] at H
     have c24b0 := decide_eq_true c24
     rcases Classical.em (0 ≤ x93_3) with c25 | c25
     rotate_left
     ·rw [if_neg c25] at H
      exact absurd H (by simp)
     rw [if_pos c25, if_pos (by rw [← HL75.out]; exact c24)] at H
     have c25b0 := decide_eq_true c25
     obtain ⟨y256, hy256⟩ : ∃ y_ : List Int, y_ = rd_L1 x7_5 x93_3 := ⟨_, rfl⟩
     simp only [← hy256] at H
     have Ny256 := Aq.mk hy256
     clear hy256
     rcases Classical.em (0 ≤ x34_2) with c27 | c27
     rotate_left
     ·rw [if_neg c27] at H
      exact absurd H (by simp)
     rw [if_pos c27] at H
     have c27b0 := decide_eq_true c27
     rcases Classical.em (x34_2 < (y256.length : Int)) with c28 | c28
     rotate_left
     ·rw [if_neg c28] at H
      exact absurd H (by simp)
     rw [if_pos c28] at H
     have c28b0 := decide_eq_true c28
     have Q4 := Aq.mk (show (0 ≤ x93_3 ∧ x93_3 < (x7_2.length : Int)) ∧ (0 ≤ x34_2 ∧ x34_2 < (y256.length : Int)) from ⟨⟨c25, c24⟩, c27, c28⟩)
     clear c24 c25 c27 c28
     have HC29 := Aq.mk H
     clear H
     obtain ⟨A258, co34, hx258, _, hi258⟩ := rows_cell HO_7.out Q4.out.1.1 Q4.out.1.2
     rw [← Ny256.out] at hx258 hi258
     obtain ⟨ad259, e259, hx259_0⟩ := Kd.at_int hi258 x34_2 Q4.out.2.1 Q4.out.2.2
     cases e259
     clear hi258
     have HCr := Aq.mk hx258
     have hcz33_0 : wr.cell? ⟨gb262, 0, none⟩ = some (.int .i64 x34_2) := (kQC BK262.out 0).trans rfl
     have hfz33_0 := kQF BK262.out 0
     have p240 : (0 ≤ x93_3) = True := eq_true Q4.out.1.1
     have q240 : (x93_3 < (x7_2.length : Int)) = True := eq_true Q4.out.1.2
     have p259 : (0 ≤ x34_2) = True := eq_true Q4.out.2.1
     have q259 : (x34_2 < (y256.length : Int)) = True := eq_true Q4.out.2.2
     go_upto_region 23 with fail
     (try simp only [Act.put, qSa, qSb, qSc])
     go_cut [108] (fun v108 wc => ∃ (kq : Nat) (x108_28 : Bool), v108 = .bool x108_28 ∧ Aq (impl_Field_reduce.j4 kq x7_5 x8_2 a1 x34_2 (x7_2.length : Int) x93_3 x108_28 a0_0 a0_1 = some r) ∧ Aq (kq ≤ k4) ∧ Aq (x108_28 = true → x93_3 ≠ x8_2) ∧ Aq (RowsS wc w.heap.size (fun k_ => k_ ≠ gb262) gx7 x7_2.length co35 x7_5) ∧ Aq (wc.cell? ⟨gx7, x8_2.toNat, none⟩ = some (.slice (some ad270) x13_3.length c268_0)) ∧ Aq (wc.cell? ⟨gx7, x93_3.toNat, none⟩ = some (.slice (some ad259) y256.length co34)) ∧ Aq (wc.heap[gb248]? = some (.cells #[.int .i64 a0_0, .int .i64 a0_1] 28 (0, 0))) ∧ Aq (wc.heap[gb262]? = some (.cells #[.int .i64 x34_2] 2 (0, 0))) ∧ Aq (Below w.heap.size w wc))
     case first =>
      have H := HC29.out
      clear HC29
      by_cases c35 : x93_3 = x8_2
      ·rw [if_pos c35] at H
       have c35b0 := beq_iff_eq.mpr c35
       have c35b1 := bne_eq_false_iff_eq.mpr c35
       clear c35
       (first | rw [c35b0] | (simp only [i64_w, i32_w]; rw [c35b0]) | skip)
       replace H' := Aq.mk H
       clear H
       go_wp2
       go_meet
       case rel => exact ⟨_, (false), tS, H', ⟨by have := HK1.out; have := HK2.out; have := HK3.out; have := HK4.out; first | omega | exact Nat.le_refl _⟩, ⟨fun h_ => Bool.noConfusion h_⟩, ⟨by (with_reducible repeat (first | apply Kd.S_alloc | apply Kd.S_drewN | apply Kd.S_drew)); exact HO_7.out⟩, ⟨HCd.out⟩, ⟨HCr.out⟩, ⟨tG BK248.out⟩, ⟨tG BK262.out⟩, ⟨tB⟩⟩
      rw [if_neg c35] at H
      have HNE := Aq.mk c35
      have c35b0 := beq_eq_false_iff_ne.mpr c35
      have c35b1 := bne_iff_ne.mpr c35
      clear c35
      (first | rw [c35b0] | (simp only [i64_w, i32_w]; rw [c35b0]) | skip)
      replace H' := Aq.mk H
      clear H
      go_wp2
      go_meet
      case rel => exact ⟨_, (((rd y256 x34_2) != 0)), tS, H', ⟨by have := HK1.out; have := HK2.out; have := HK3.out; have := HK4.out; first | omega | exact Nat.le_refl _⟩, ⟨fun _ => HNE.out⟩, ⟨by (with_reducible repeat (first | apply Kd.S_alloc | apply Kd.S_drewN | apply Kd.S_drew)); exact HO_7.out⟩, ⟨HCd.out⟩, ⟨HCr.out⟩, ⟨tG BK248.out⟩, ⟨tG BK262.out⟩, ⟨tB⟩⟩
     clear HC29 HO_7 HCd HCr BK248 BK262 HB hx258 hx259_0 hcz33_0 hfz33_0 p240 q240 p259 q259 c24b0 c25b0 c27b0 c28b0
     obtain ⟨kq, x108_28, rfl, HA, HJ28, HNE, HO_7, HCd, HCr, BK248, BK262, HB⟩ := hcut
     cases kq with
     | zero => exact absurd HA.out (by simp [impl_Field_reduce.j4])
     | succ kj28 =>
      have H := HA.out
      clear HA
      simp only [impl_Field_reduce.j4] at H
      by_cases c36 : x108_28 = true
      rotate_left
      ·rw [if_neg c36] at H
       have c36b0 : x108_28 = false := Bool.eq_false_iff.mpr c36
       subst c36b0
       clear c36
       replace H' := Aq.mk H
       clear H
       go_wp2
       go_roundg kj28
       case measure => have := HK1.out; have := HK2.out; have := HK3.out; have := HK4.out; have := HJ28.out; omega
       case rel => exact ⟨x7_5, (wrap64 (x93_3 + 1)), tS, H', ⟨by have := HK1.out; have := HK2.out; have := HK3.out; have := HK4.out; have := HJ28.out; omega⟩, ⟨by (with_reducible repeat (first | apply Kd.S_alloc | apply Kd.S_drewN | apply Kd.S_drew)); exact HO_7.out⟩, ⟨HCd.out⟩, ⟨tG BK248.out⟩, ⟨tG BK262.out⟩, ⟨tB⟩⟩
      subst c36
      have hne := HNE.out rfl
      rw [if_pos rfl, if_pos Q.out.1.1, if_pos (by rw [← HL75.out]; exact Q.out.1.2)] at H
      simp only [← Ny256.out] at H
      obtain ⟨x13_6, hx133⟩ : ∃ y_ : List Int, y_ = rd_L1 x7_5 x8_2 := ⟨_, rfl⟩
      simp only [← hx133] at H
      replace H' := Aq.mk H
      clear H
      obtain ⟨okr, hRr, hHr, hokr⟩ := rows_lend HO_7.out Q4.out.1.1 Q4.out.1.2 HCr.out
      rw [← Ny256.out] at hRr
      obtain ⟨oko, hRo, hoko⟩ := rows_other hHr Q4.out.1.1 Q.out.1.1 Q.out.1.2 (Ne.symm hne) HCd.out
      rw [← hx133] at hRo
      have HLow := Aq.mk (show (x13_6.length : Int) = (x13_3.length : Int) by have := (Kd.R_reads' hRo).1; omega)
      have HO_13 := Aq.mk hRo
      have HO_17 := Aq.mk hRr
      have HH := Aq.mk hHr
      have HKr := Aq.mk hokr
      have HKo := Aq.mk hoko
      clear hRr hHr hokr hRo hoko hx133 hne HO_7
      go_wp2
      go_loopg [111] kj28 (fun kq v111 w' => ∃ (x17_5 : List Int) (x111_5 : Int), v111 = .int .i64 x111_5 ∧ Aq (impl_Field_reduce.l4 kq x7_5 x8_2 x13_6 x17_5 (rd y256 x34_2) a1 x34_2 (x7_2.length : Int) x93_3 (y256.length : Int) x111_5 a0_0 a0_1 = some r) ∧ Aq (kq ≤ kj28) ∧ Aq (RowsH w' w.heap.size (fun k_ => k_ ≠ gb262) gx7 x7_2.length co35 x7_5 x93_3 okr (.slice (some ad259) y256.length co34)) ∧ Aq (Kd.R (Kd.int .i64) 2 w' w.heap.size oko (.slice (some ad270) x13_3.length c268_0) x13_6) ∧ Aq (Kd.R (Kd.int .i64) 2 w' w.heap.size okr (.slice (some ad259) y256.length co34) x17_5) ∧ Aq (w'.cell? ⟨gx7, x8_2.toNat, none⟩ = some (.slice (some ad270) x13_3.length c268_0)) ∧ Aq (w'.heap[gb248]? = some (.cells #[.int .i64 a0_0, .int .i64 a0_1] 28 (0, 0))) ∧ Aq (w'.heap[gb262]? = some (.cells #[.int .i64 x34_2] 2 (0, 0))) ∧ Aq (Below w.heap.size w w'))
      case atStart => exact ⟨y256, 0, tS, H', ⟨Nat.le_refl _⟩, ⟨by (with_reducible repeat (first | apply Kd.H_alloc | apply Kd.H_drewN | apply Kd.H_drew)); exact HH.out⟩, ⟨tR HO_13.out⟩, ⟨tR HO_17.out⟩, ⟨HCd.out⟩, ⟨tG BK248.out⟩, ⟨tG BK262.out⟩, ⟨tB⟩⟩
      clear H' HH HO_13 HO_17 HCd HCr BK248 BK262 HB
      obtain ⟨x17_5, x111_5, rfl, HA, HK5, HO_7, HO_13, HO_17, HCd, BK248, BK262, HB⟩ := hrel
      have hl17_5 := (Kd.R_reads' HO_17.out).1
      rw [hl17_5] at HO_17
      (try simp only [hl17_5])
      (try simp only [hl17_5] at BK248)
      (try simp only [hl17_5] at BK262)
      (try simp only [hl17_5] at HO_7)
      cases gk with
      | zero => exact absurd HA.out (by simp [impl_Field_reduce.l4])
      | succ k5 =>
       have H := HA.out
       clear HA
       simp only [impl_Field_reduce.l4] at H
       by_cases c37 : x111_5 < (y256.length : Int)
       rotate_left
       ·rw [if_neg c37] at H
        have c37b0 := decide_eq_false c37
        clear c37
        (try (have c37b0z := c37b0; simp only [hl17_5] at c37b0z))
        have HS := Aq.mk (rows_back HO_7.out HO_17.out)
        replace H' := Aq.mk H
        clear H
        go_wp2
        go_roundg k5
        case measure => have := HK1.out; have := HK2.out; have := HK3.out; have := HK4.out; have := HK5.out; have := HJ28.out; omega
        case rel => exact ⟨(x7_5.set (x93_3 : Int).toNat x17_5), (wrap64 (x93_3 + 1)), tS, H', ⟨by have := HK1.out; have := HK2.out; have := HK3.out; have := HK4.out; have := HK5.out; have := HJ28.out; omega⟩, ⟨by (with_reducible repeat (first | apply Kd.S_alloc | apply Kd.S_drewN | apply Kd.S_drew)); exact HS.out⟩, ⟨HCd.out⟩, ⟨tG BK248.out⟩, ⟨tG BK262.out⟩, ⟨tB⟩⟩
       rw [if_pos c37] at H
       have c37b0 := decide_eq_true c37
       clear c37
       (try (have c37b0z := c37b0; simp only [hl17_5] at c37b0z))
       by_cases c38 : 0 ≤ x111_5
       rotate_left
       ·rw [if_neg c38] at H
        exact absurd H (by simp)
       rw [if_pos c38] at H
       have c38b0 := decide_eq_true c38
       clear c38
       (try (have c38b0z := c38b0; simp only [hl17_5] at c38b0z))
       by_cases c39 : x111_5 < (x17_5.length : Int)
       rotate_left
       ·rw [if_neg c39] at H
        exact absurd H (by simp)
       rw [if_pos c39] at H
       have c39b0 := decide_eq_true c39
       clear c39
       (try (have c39b0z := c39b0; simp only [hl17_5] at c39b0z))
       by_cases c40 : x111_5 < (x13_6.length : Int)
       rotate_left
       ·rw [if_neg c40] at H
        exact absurd H (by simp)
       rw [if_pos c40] at H
       have c40b0 := decide_eq_true c40
       clear c40
       (try (have c40b0z := c40b0; simp only [hl17_5] at c40b0z))
       obtain ⟨t262, A41, H⟩ := qBd H
       obtain ⟨y263, hy263⟩ : ∃ y_ : List Int, y_ = (x17_5.set (x111_5 : Int).toNat (Go.bits .xor .i64 (rd x17_5 x111_5) t262)) := ⟨_, rfl⟩
       replace H : (impl_Field_reduce.l4 k5 x7_5 x8_2 x13_6 y263 (rd y256 x34_2) a1 x34_2 (x7_2.length : Int) x93_3 (y256.length : Int) (wrap64 (x111_5 + 1)) a0_0 a0_1) = some r := by first | (rw [hy263]; with_reducible exact H) | (have H2_ := (Option.bind_some _ _).symm.trans H; rw [hy263]; with_reducible exact H2_) | (have H2_ := (Option.bind_some _ _).symm.trans H; with_reducible exact H2_) | with_reducible exact H | (rw [hy263]; exact H) | exact H
       have Ny263 := Aq.mk hy263
       clear hy263
       replace H' := Aq.mk H
       clear H
       try go_wp2
       have n0_ := Aq.mk (Kd.H_drew HO_7.out)
       have n1_ := Aq.mk (Kd.RqD HO_13.out)
       have n2_ := Aq.mk (Kd.RqD HO_17.out)
       have n3_ := Aq.mk (kQD BK248.out)
       have n4_ := Aq.mk (kQD BK262.out)
       have n5_ := Aq.mk (bQ1 HB.out)
       clear HO_7
       clear HO_13
       clear HO_17
       clear BK248
       clear BK262
       clear HB
       have HO_7 := n0_
       have HO_13 := n1_
       have HO_17 := n2_
       have BK248 := n3_
       have BK262 := n4_
       have HB := n5_
       clear n0_ n1_ n2_ n3_ n4_ n5_
       have p260 : 0 ≤ (x111_5 : Int) := of_decide_eq_true tA
       have q260 : x111_5 < (x17_5.length : Int) := of_decide_eq_true tA
       obtain ⟨ad260, e260, hx260_0⟩ := Kd.at_int (Kd.R_reads' HO_17.out).2.2 x111_5 p260 q260
       obtain rfl : ad259 = ad260 := (by injection e260)
       replace p260 := eq_true p260
       replace q260 := eq_true q260
       have p261 : 0 ≤ (x111_5 : Int) := of_decide_eq_true tA
       have q261 : x111_5 < (x13_6.length : Int) := of_decide_eq_true tA
       obtain ⟨ad261, e261, hx261_0⟩ := Kd.at_int (Kd.R_reads' HO_13.out).2.2 x111_5 p261 q261
       cases e261
       replace p261 := eq_true p261
       replace q261 := eq_true q261
       have q261b : (x111_5 < (x13_3.length : Int)) = True := by have h_ := HLow.out; have h2_ := of_eq_true q261; exact eq_true (by omega)
       refine start_ (n := 14) (S := fun w' => w'.cell? ⟨gb248, 0, none⟩ = some (.int .i64 a0_0) ∧ w'.cell? ⟨gb248, 1, none⟩ = some (.int .i64 a0_1) ∧ w'.cell? (ad259.add (x111_5).toNat) = some (.int .i64 (rd x17_5 x111_5)) ∧ w'.cell? (ad270.add (x111_5).toNat) = some (.int .i64 (rd x13_6 x111_5))) (ds := [13]) #[false, false, false, false, false, false, false, false, false, false, false, false, false, false] (by kernel_rfl) rfl rfl ⟨(kQC BK248.out 0).trans rfl, (kQC BK248.out 1).trans rfl, hx260_0, hx261_0⟩ (fun hHeld => ?_); refine with_tabW impl_Field_reduce.tab27 impl_Field_reduce.bits27 (fun HT_ HW_ => ?_)
       have HCd2 : Aq (wr.drew.cell? ⟨gx7, x8_2.toNat, none⟩ = some (.slice (some ad270) x13_3.length c268_0)) := ⟨HCd.out⟩
       clear HCd
       have HCd := HCd2
       clear HCd2
       generalize wr.drew = w43 at HCd HO_7 HO_13 HO_17 BK248 BK262 HB hx260_0 hx261_0 hHeld ⊢
       refine tP0 0 114 (bm 14 1) ?_
       refine tP0 1 115 (bm 14 3) ?_
       refine tP0 2 116 (bm 14 7) ?_
       refine tP0 5 119 (bm 14 39) ?_
       refine tP0 6 120 (bm 14 103) ?_
       refine tP0 7 121 (bm 14 231) ?_
       refine tP0 8 122 (bm 14 487) ?_
       refine tT4 3 117 (bm 14 495) ?_
       refine tT4 4 118 (bm 14 511) ?_
       refine tT4 9 123 (bm 14 1023) ?_
       refine one_ (i := 10) (N := some 124) (bm 14 2047) rfl rfl (one_of HT_.out (by kernel_rfl)) (by decide) (fun K hK => ?_)
       refine goes_ Try.func77 (by kernel_rfl) rfl #[.agg #[.int .i64 a0_0, .int .i64 a0_1], .int .i64 (rd y256 x34_2), .int .i64 (rd x13_6 x111_5)] (by rfl) rfl rfl tL ?_
       with_reducible refine (impl_Field_mul.calls k5 a0_0 a0_1 (rd y256 x34_2) (rd x13_6 x111_5) t262 _ A41.out).mono ?_
       rintro e w45 ⟨rfl, hb⟩
       have nc_ := Aq.mk ((hb.cell (World.block_lt_of_cell? _ _ HCd.out)).trans HCd.out)
       clear HCd
       have HCd := nc_
       clear nc_
       have HS2_ := (hb.cell (World.block_lt_of_cell? _ _ (hHeld.2.2.1))).trans (hHeld.2.2.1)
       have HS3_ := (hb.cell (World.block_lt_of_cell? _ _ (hHeld.2.2.2))).trans (hHeld.2.2.2)
       refine ⟨_, rfl, ?_⟩
       have n0_ := Aq.mk (Kd.H_below (by (with_reducible repeat (first | apply Kd.H_alloc | apply Kd.H_drewN | apply Kd.H_drew)); exact HO_7.out) hb)
       have n1_ := Aq.mk (Kd.R_below (tR HO_13.out) hb)
       have n2_ := Aq.mk (Kd.R_below (tR HO_17.out) hb)
       have n3_ := Aq.mk (tQ BK248.out hb)
       have n4_ := Aq.mk (tQ BK262.out hb)
       have n5_ := Aq.mk (bQT tB hb)
       clear HO_7
       clear HO_13
       clear HO_17
       clear BK248
       clear BK262
       clear HB
       have HO_7 := n0_
       have HO_13 := n1_
       have HO_17 := n2_
       have BK248 := n3_
       have BK262 := n4_
       have HB := n5_
       clear n0_ n1_ n2_ n3_ n4_ n5_
       (try clear hb)
       (try clear hb2)
       (try clear hk)
       (try clear hi)
       have p42 : 0 ≤ (x111_5 : Int) := of_decide_eq_true tA
       have q42 : (x111_5 : Int) < ((x17_5.length : Int) : Int) := of_decide_eq_true tA
       obtain ⟨go42, co42, eo42, gb42, gl42, cl42, HG42⟩ := Kd.R_form HO_17.out (by omega)
       (first | cases eo42 | (injection eo42 with ea_ en_ ec_; (first | subst ea_ | (injection ea_ with ea_; subst ea_)); subst ec_; clear en_))
       have GB42 := Aq.mk gb42
       have GG42 := Aq.mk HG42
       clear gb42 gl42 HG42
       (first | simp only [add_plain] at hx259_0 | skip)
       (first | simp only [add_plain] at hx260_0 | skip)
       obtain ⟨hx42_0, hf42_0⟩ := Kd.R_celln 0 HO_17.out (x111_5 : Int) p42 q42
       replace p42 := eq_true p42
       replace q42 := eq_true q42
       have HP46 := Kd.R_putn HO_17.out (x111_5 : Int) (Go.bits .xor .i64 (rd x17_5 x111_5) t262)
       rw [← Ny263.out] at HP46
       have HQ46 := Aq.mk HP46
       clear HP46
       refine hK.out _ _ ⟨(kQC BK248.out 0).trans rfl, (kQC BK248.out 1).trans rfl, HS2_, HS3_⟩ (fun hHeld => ?_)
       clear hK K
       refine tN 124 ?_
       refine tP0 11 125 (bm 14 4095) ?_
       refine tP0 12 126 (bm 14 8191) ?_
       refine last_ (i := 13) (N := none) #[true, true, true, true, true, true, true, true, true, true, true, true, true, true] rfl rfl (one_of HT_.out (by kernel_rfl)) (by decide) (fun K hK => ?_)
       refine skip_ (w1 := ?_) (by rfl) rfl ?_ ?_
       rotate_left
       ·go_simp
        rfl
       refine hK.out _ _ ?_
       clear hK K
       refine done_ (done_of HT_.out (by kernel_rfl)) ?_
       try go_wp2
       (try simp only [← hl17_5])
       go_roundg k5
       case measure => have := HK1.out; have := HK2.out; have := HK3.out; have := HJ28.out; have := HK5.out; omega
       case rel => exact ⟨y263, (wrap64 (x111_5 + 1)), tS, H', ⟨by have := HK5.out; have := HJ28.out; omega⟩, ⟨by (try simp only [hl17_5]); (with_reducible repeat (first | apply Kd.H_alloc | apply Kd.H_drewN | apply Kd.H_drew)); exact Kd.H_grown HO_7.out (Kd.R_putg HO_17.out (x111_5 : Int) (Go.bits .xor .i64 (rd x17_5 x111_5) t262)).2 (fun k_ hk_ => HO_17.out.1 k_ (by simpa [Value.ownBlock] using hk_))⟩, ⟨by (try simp only [hl17_5]); (with_reducible repeat (first | apply Kd.RqA | apply Kd.RqN | apply Kd.RqD)); exact Kd.R_far (p := ⟨go42, (x111_5 : Int).toNat, none⟩) HO_13.out (fun k_ hk_ e_ => (HKo.out k_ hk_).2.1 (HO_17.out.1 k_ (by rw [e_]; simp [Value.ownBlock]))) _⟩, ⟨by (try simp only [hl17_5]); (with_reducible repeat (first | apply Kd.RqA | apply Kd.RqN | apply Kd.RqD)); exact HQ46.out⟩, ⟨by (try simp only [hl17_5]); exact (cell_far (p := ⟨go42, (x111_5 : Int).toNat, none⟩) (fun e_ => (HKr.out go42 (HO_17.out.1 go42 (by simp [Value.ownBlock]))).2 e_.symm) _).trans HCd.out⟩, ⟨by (try simp only [hl17_5]); (with_reducible repeat (first | refine kQN ?_ _ | refine kQD ?_ | refine kQA ?_ _)); refine kQR ?_ (by have h_ := Kd.R_ne HO_17.out BK248.out (by decide); intro e_; exact h_ (by rw [e_]; rfl)) _; (with_reducible repeat (first | refine kQN ?_ _ | refine kQD ?_ | refine kQA ?_ _)); exact BK248.out⟩, ⟨by (try simp only [hl17_5]); (with_reducible repeat (first | refine kQN ?_ _ | refine kQD ?_ | refine kQA ?_ _)); refine kQR ?_ (fun e_ => (HKr.out go42 (HO_17.out.1 go42 (by simp [Value.ownBlock]))).1 e_.symm) _; (with_reducible repeat (first | refine kQN ?_ _ | refine kQD ?_ | refine kQA ?_ _)); exact BK262.out⟩, ⟨by repeat (first | (with_reducible first | exact HB.out | apply bQA | apply bQN | apply bQ1 | refine bQS ?_ GB42.out | refine bQS ?_ GE248.out | refine bQS ?_ GE262.out) | exact HB.out)⟩⟩
end Go.Proofs.Ytbalkaphibnpcaa.P
