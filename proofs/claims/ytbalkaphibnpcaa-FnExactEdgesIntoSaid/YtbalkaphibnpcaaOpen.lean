/- How a law's arguments are told, as the printing program wrote it. -/
import Derived.Test.YtbalkaphibnpcaaWMore
import Derived.ProofKit
import Derived.Deep.Slices
import Derived.ChangeArms
import Derived.DataReads
namespace Go.Proofs.Ytbalkaphibnpcaa.Open
open Go.ChangeShapes Go.WideShapes Go.ChangeAt Go.RowKit Go.Deep Go.Proofs.YtbalkaphibnpcaaW.PrintWords
def Opens (P : Program) (t : TypeId) {α : Type} (d : Kd α) (good : α → Prop) : Prop :=
  ∀ {H : Type} (enc : TypeId × Value → H) (w : World) (base : Nat) (fuel : Nat) (cs : List Value) (x : DataW H × List MemPlace), DataW.trod enc P w base (fun _ => true) true fuel t cs = some x → ∃ a : α, d.K w a cs ∧ good a
theorem Opens.int {P : Program} {t : TypeId} {k : IntKind} (ht : P.underlying t = some (.int k)) : Opens P t (Kd.int k) (fun n => (Lit.int k n).wf = true) := by
 intro H enc w base fuel cs x h
 obtain ⟨n, rfl, _, hw⟩ := DataW.trod_int ht h
 exact ⟨n, rfl, hw⟩
theorem cells_get {w : World} {base n : Nat} {a : Addr} {cs : List Value} (h : w.cells? base a n = some cs) : cs.length = n ∧ ∀ i u, cs[i]? = some u → w.cell? (a.add i) = some u := by
 unfold World.cells? at h
 split at h
 case isFalse => cases h
 have hl := mapM_some_length h
 rw [List.length_range] at hl
 refine ⟨hl, fun i u hu => ?_⟩
 have hi := (List.getElem?_eq_some_iff.1 hu).1
 have := mapM_some_get h i i (by rw [List.getElem?_range (by omega)])
 rw [hu] at this
 exact this
theorem add_add (a : Addr) (i j : Nat) : (a.add i).add j = a.add (i + j) := by
 unfold Addr.add
 by_cases hi : i = 0
 ·subst hi; simp
 by_cases hj : j = 0
 ·subst hj; simp [hi]
 simp [hi, hj, Nat.add_assoc]
theorem choose_list {α : Type} (n : Nat) (Q : Nat → α → Prop) (h : ∀ i, i < n → ∃ a, Q i a) : ∃ l : List α, l.length = n ∧ ∀ i a, l[i]? = some a → Q i a := by
 induction n with
 | zero => exact ⟨[], rfl, fun i a h => by simp at h⟩
 | succ n ih =>
  obtain ⟨l, hl, hq⟩ := ih (fun i hi => h i (by omega))
  obtain ⟨a, ha⟩ := h n (by omega)
  refine ⟨l ++ [a], by simp [hl], fun i b hb => ?_⟩
  rcases Nat.lt_or_ge i l.length with hlt | hge
  ·rw [List.getElem?_append_left hlt] at hb
   exact hq i b hb
  have hi := (List.getElem?_eq_some_iff.1 hb).1
  simp at hi
  have : i = n := by omega
  subst this
  rw [← hl] at hb
  simp at hb
  subst hb
  exact ha
theorem Opens.slice {P : Program} {t e : TypeId} {α : Type} {d : Kd α} {good : α → Prop} (ht : P.underlying t = some (.slice e)) (hc : P.cellsOf e = d.sz) (ho : Opens P e d good) :
 Opens P t (Kd.slice e d) (fun l => l.length ≤ maxLen ∧ ∀ x ∈ l, good x) := by
 intro H enc w base fuel cs x h
 rcases open_slice ht h with ⟨rfl, _⟩ | ⟨a, len, cap, m, n, D, Pl, rfl, _, hl, hm, hmm, _, hel⟩
 ·exact ⟨[], ⟨none, 0, rfl, Nat.le_refl _, rfl, Nat.zero_le _, fun h => absurd h (by simp)⟩, by simp, by simp⟩
 simp only [if_true] at hmm
 subst hmm
 obtain ⟨l, hll, hq⟩ := choose_list len (fun i y => ∃ cs', w.cells? base (a.add (i * P.cellsOf e)) (P.cellsOf e) = some cs' ∧ d.K w y cs' ∧ good y) (fun i hi => by
  obtain ⟨cs', h1, h2⟩ := hel i (by omega)
  obtain ⟨y, hK, hg⟩ := ho enc w base n cs' _ h2
  exact ⟨y, cs', h1, hK, hg⟩)
 refine ⟨l, ⟨some a, m, by rw [hll], by omega, rfl, ?_, fun _ => ⟨a, rfl, fun j p hj => ?_⟩⟩, by omega, fun x hx => ?_⟩
 ·unfold maxLen at hm; omega
 ·obtain ⟨cs', h1, hK, _⟩ := hq j p hj
  rw [hc] at h1
  obtain ⟨hlen, hget⟩ := cells_get h1
  exact ⟨cs', hlen, hK, fun i u hu => by rw [← add_add]; exact hget i u hu⟩
 obtain ⟨j, hj, rfl⟩ := List.getElem_of_mem hx
 exact (hq j _ (List.getElem?_eq_getElem hj)).choose_spec.2.2
theorem split2 {α : Type} (cs : List α) (a b : Nat) (h : cs.length = a + b) : cs = cs.take a ++ (cs.drop a).take b := by
 conv => lhs; rw [← List.take_append_drop a cs]
 congr 1
 rw [List.take_of_length_le]
 simp; omega
theorem Opens.agg2 {P : Program} {t : TypeId} {f0 f1 : Field} {α β : Type} {d0 : Kd α} {d1 : Kd β} {g0 : α → Prop} {g1 : β → Prop} (ht : P.underlying t = some (.struct #[f0, f1])) (h0 : Opens P f0.type d0 g0) (h1 : Opens P f1.type d1 g1)
 (c0 : P.cellsOf f0.type = d0.sz) (c1 : P.cellsOf f1.type = d1.sz) (o0 : f0.offset = 0) (o1 : f1.offset = d0.sz) (hc : P.cellsOf t = d0.sz + d1.sz) :
 Opens P t (Kd.pair d0 d1) (fun x => g0 x.1 ∧ g1 x.2) := by
 intro H enc w base fuel cs x h
 obtain ⟨y0, y1, n, _, hl, e0, e1⟩ := trod_struct2 ht h
 obtain ⟨a, ka, ga⟩ := h0 enc w base n _ _ e0
 obtain ⟨b, kb, gb⟩ := h1 enc w base n _ _ e1
 rw [o0, c0, List.drop_zero] at ka
 rw [o1, c1] at kb
 exact ⟨(a, b), ⟨_, _, split2 cs d0.sz d1.sz (by omega), ka, kb⟩, ga, gb⟩
theorem Opens.agg3 {P : Program} {t : TypeId} {f0 f1 f2 : Field} {α β γ : Type} {d0 : Kd α} {d1 : Kd β} {d2 : Kd γ} {g0 : α → Prop} {g1 : β → Prop} {g2 : γ → Prop} (ht : P.underlying t = some (.struct #[f0, f1, f2])) (h0 : Opens P f0.type d0 g0) (h1 : Opens P f1.type d1 g1) (h2 : Opens P f2.type d2 g2)
 (c0 : P.cellsOf f0.type = d0.sz) (c1 : P.cellsOf f1.type = d1.sz) (c2 : P.cellsOf f2.type = d2.sz) (o0 : f0.offset = 0) (o1 : f1.offset = d0.sz) (o2 : f2.offset = d0.sz + d1.sz) (hc : P.cellsOf t = d0.sz + (d1.sz + d2.sz)) :
 Opens P t (Kd.pair d0 (Kd.pair d1 d2)) (fun x => g0 x.1 ∧ g1 x.2.1 ∧ g2 x.2.2) := by
 intro H enc w base fuel cs x h
 obtain ⟨xs, n, _, _, hl, hlen, hf⟩ := DataW.trod_struct ht h
 match xs, hlen with
 | [y0, y1, y2], _ =>
  have e0 := hf 0 f0 rfl
  have e1 := hf 1 f1 rfl
  have e2 := hf 2 f2 rfl
  simp only [List.getElem?_cons_zero, List.getElem?_cons_succ] at e0 e1 e2
  obtain ⟨a, ka, ga⟩ := h0 enc w base n _ _ e0
  obtain ⟨b, kb, gb⟩ := h1 enc w base n _ _ e1
  obtain ⟨c, kc, gc⟩ := h2 enc w base n _ _ e2
  rw [o0, c0, List.drop_zero] at ka
  rw [o1, c1] at kb
  rw [o2, c2] at kc
  rw [List.take_of_length_le (by rw [List.length_drop]; omega)] at kc
  have tail : ∀ o q : Nat, cs.drop o = (cs.drop o).take q ++ cs.drop (o + q) := fun o q => by rw [← List.drop_drop]; exact (List.take_append_drop q _).symm
  exact ⟨(a, b, c), ⟨_, cs.drop d0.sz, (List.take_append_drop d0.sz cs).symm, ka, _, cs.drop (d0.sz + d1.sz), tail _ _, kb, kc⟩, ga, gb, gc⟩
theorem Opens.agg5 {P : Program} {t : TypeId} {f0 f1 f2 f3 f4 : Field} {α β γ δ ε : Type} {d0 : Kd α} {d1 : Kd β} {d2 : Kd γ} {d3 : Kd δ} {d4 : Kd ε} {g0 : α → Prop} {g1 : β → Prop} {g2 : γ → Prop} {g3 : δ → Prop} {g4 : ε → Prop}
 (ht : P.underlying t = some (.struct #[f0, f1, f2, f3, f4])) (h0 : Opens P f0.type d0 g0) (h1 : Opens P f1.type d1 g1) (h2 : Opens P f2.type d2 g2) (h3 : Opens P f3.type d3 g3) (h4 : Opens P f4.type d4 g4)
 (c0 : P.cellsOf f0.type = d0.sz) (c1 : P.cellsOf f1.type = d1.sz) (c2 : P.cellsOf f2.type = d2.sz) (c3 : P.cellsOf f3.type = d3.sz) (c4 : P.cellsOf f4.type = d4.sz)
 (o0 : f0.offset = 0) (o1 : f1.offset = d0.sz) (o2 : f2.offset = d0.sz + d1.sz) (o3 : f3.offset = d0.sz + d1.sz + d2.sz) (o4 : f4.offset = d0.sz + d1.sz + d2.sz + d3.sz) (hc : P.cellsOf t = d0.sz + (d1.sz + (d2.sz + (d3.sz + d4.sz)))) :
 Opens P t (Kd.pair d0 (Kd.pair d1 (Kd.pair d2 (Kd.pair d3 d4)))) (fun x => g0 x.1 ∧ g1 x.2.1 ∧ g2 x.2.2.1 ∧ g3 x.2.2.2.1 ∧ g4 x.2.2.2.2) := by
 intro H enc w base fuel cs x h
 obtain ⟨xs, n, _, _, hl, hlen, hf⟩ := DataW.trod_struct ht h
 match xs, hlen with
 | [y0, y1, y2, y3, y4], _ =>
  have e0 := hf 0 f0 rfl
  have e1 := hf 1 f1 rfl
  have e2 := hf 2 f2 rfl
  have e3 := hf 3 f3 rfl
  have e4 := hf 4 f4 rfl
  simp only [List.getElem?_cons_zero, List.getElem?_cons_succ] at e0 e1 e2 e3 e4
  obtain ⟨a, ka, ga⟩ := h0 enc w base n _ _ e0
  obtain ⟨b, kb, gb⟩ := h1 enc w base n _ _ e1
  obtain ⟨c, kc, gc⟩ := h2 enc w base n _ _ e2
  obtain ⟨d, kd, gd⟩ := h3 enc w base n _ _ e3
  obtain ⟨e, ke, ge⟩ := h4 enc w base n _ _ e4
  rw [o0, c0, List.drop_zero] at ka
  rw [o1, c1] at kb
  rw [o2, c2] at kc
  rw [o3, c3] at kd
  rw [o4, c4] at ke
  rw [List.take_of_length_le (by rw [List.length_drop]; omega)] at ke
  have tail : ∀ o q : Nat, cs.drop o = (cs.drop o).take q ++ cs.drop (o + q) := fun o q => by rw [← List.drop_drop]; exact (List.take_append_drop q _).symm
  exact ⟨(a, b, c, d, e), ⟨_, cs.drop d0.sz, (List.take_append_drop d0.sz cs).symm, ka, _, cs.drop (d0.sz + d1.sz), tail _ _, kb, _, cs.drop (d0.sz + d1.sz + d2.sz), tail _ _, kc, _, cs.drop (d0.sz + d1.sz + d2.sz + d3.sz), tail _ _, kd, ke⟩, ga, gb, gc, gd, ge⟩
theorem Opens.iso {P : Program} {t : TypeId} {α β : Type} {d : Kd α} {f : β → α} {good : α → Prop} (g : α → β) (hg : ∀ a, f (g a) = a) (h : Opens P t d good) : Opens P t (Kd.iso d f) (fun b => good (f b)) := by
 intro H enc w base fuel cs x hx
 obtain ⟨a, hK, hgd⟩ := h enc w base fuel cs x hx
 refine ⟨g a, ?_, ?_⟩
 ·show d.K w (f (g a)) cs
  rw [hg]; exact hK
 show good (f (g a))
 rw [hg]; exact hgd
end Go.Proofs.Ytbalkaphibnpcaa.Open
