/- Functions of the program and what they tell, as the printing program wrote it. -/
import Derived.Test.YtkhjoomjjdgkjaaProg
import Derived.Below
import Derived.Laws.CopyOwn
import Derived.Deep.Draws
import Derived.Deep.AppendLies
import Derived.Maps.AppendAt
import Derived.OwnWalk
import Derived.Laws.BytesArg
import Derived.Laws.MakeOwn
import Derived.Laws.OwnMore
import Derived.Deep.OwnRows
import Derived.Tactics
import Derived.Lib.ConvBytes
import Derived.Laws.Slices
import Derived.WalkKit
import Derived.KernelRfl
import Derived.RowKit3
import Derived.Deep.LoopGhost
import Derived.Deep.QuietTactic
import Derived.BigQuiet
import Derived.WideLaws
import Derived.Deep.DeepCutAuto
import Derived.Deep.CutBlock
import Derived.Deep.RegionHeld3
import Derived.Laws.Rows
import Derived.Lib.AppendStr
import Derived.ArgAppend
import Derived.Laws.IdiomCopy
import Derived.OrdersHeld
import Derived.Laws.BitsLemmas
import Derived.RowKit
import Derived.Shelf.Abstract
import Derived.Lib.SliceRun
import Derived.Test.YtkhjoomjjdgkjaaWWords
import Derived.Test.YtkhjoomjjdgkjaaWLast
import Derived.Test.YtkhjoomjjdgkjaaWTab
import Derived.Test.YtkhjoomjjdgkjaaWFour
import Derived.Test.YtkhjoomjjdgkjaaWQPut
import Derived.Test.YtkhjoomjjdgkjaaWApart
import Derived.Test.YtkhjoomjjdgkjaaWArr
import Derived.Test.YtkhjoomjjdgkjaaWZeros
import Derived.Test.YtkhjoomjjdgkjaaWFoot
import Derived.Test.YtkhjoomjjdgkjaaWKept
import Derived.Test.YtkhjoomjjdgkjaaWShare
import Derived.Test.YtkhjoomjjdgkjaaWN
import Derived.Test.YtkhjoomjjdgkjaaWFootNe
import Derived.Test.YtkhjoomjjdgkjaaWAt
import Derived.Test.YtkhjoomjjdgkjaaWEqStruct
import Derived.Test.YtkhjoomjjdgkjaaWRepsOne
import Derived.Test.YtkhjoomjjdgkjaaWInv
import Derived.Test.YtkhjoomjjdgkjaaWInvWords
import Derived.Test.YtkhjoomjjdgkjaaWGuard
import Derived.Test.YtkhjoomjjdgkjaaWNEv
import Derived.Test.YtkhjoomjjdgkjaaWMore
namespace Go.Proofs.Ytkhjoomjjdgkjaa.P
open Go.Shelf Go.RowKit Go.Proofs.YtkhjoomjjdgkjaaW.PrintWords Go.Proofs.YtkhjoomjjdgkjaaW.PrintLast Go.Proofs.YtkhjoomjjdgkjaaW.PrintMore
attribute [local go_sem] max2_int min2_int max_two min_two max_three min_three max_four min_four
set_option linter.unusedVariables false
set_option linter.unusedSimpArgs false
def clrEnd (l : List Int) (k : Nat) : List Int := l.take k ++ List.replicate (l.length - k) 0
def AtC (w : World) (a : Addr) (cs : List Value) : Prop := a.block < w.heap.size ∧ (∀ c, cs[0]? = some c → w.cell? a = some c) ∧ ∀ j c, 0 < j → cs[j]? = some c → w.cell? ⟨a.block, a.off + j, none⟩ = some c
theorem AtC.below {w W : World} {a : Addr} {cs : List Value} (h : AtC w a cs) (hb : Below w.heap.size w W) : AtC W a cs :=
 ⟨Nat.lt_of_lt_of_le h.1 hb.size, fun c hc => (hb.cell h.1).trans (h.2.1 c hc), fun j c h0 hc => (hb.cell (p := ⟨a.block, a.off + j, none⟩) h.1).trans (h.2.2 j c h0 hc)⟩
theorem AtC.alloc {w : World} {a : Addr} {cs : List Value} (h : AtC w a cs) (o : Obj) : AtC (w.alloc o) a cs := h.below (bQA (Below.refl _ _) o)
theorem AtC.drew {w : World} {a : Addr} {cs : List Value} (h : AtC w a cs) : AtC w.drew a cs := h.below (bQ1 (Below.refl _ _))
theorem AtC.drewN {w : World} {a : Addr} {cs : List Value} (h : AtC w a cs) (n : Nat) : AtC (w.drewN n) a cs := h.below (bQN (Below.refl _ _) n)
theorem AtC.cell0 {w : World} {a : Addr} {cs : List Value} (h : AtC w a cs) (c : Value) (hc : cs[0]? = some c) : w.cell? a = some c := h.2.1 c hc
theorem AtC.cell {w : World} {a : Addr} {cs : List Value} (h : AtC w a cs) (j : Nat) (c : Value) (h0 : 0 < j) (hc : cs[j]? = some c) : w.cell? ⟨a.block, a.off + j, none⟩ = some c := h.2.2 j c h0 hc
theorem AtC.of_blk {w : World} {g t : Nat} {cs : Array Value} {l : List Value} (h : w.heap[g]? = some (.cells cs t (0, 0))) (hl : cs.toList = l) : AtC w ⟨g, 0, none⟩ l := by
 subst hl
 refine ⟨blk_lt h, fun c hc => ?_, fun j c _ hc => ?_⟩
 ·rw [kQC h 0]; simpa using hc
 show w.cell? ⟨g, 0 + j, none⟩ = some c
 rw [Nat.zero_add, kQC h j]; simpa using hc
theorem AtC.of1 {w : World} {a : Addr} {c0 : Value} (h0 : w.cell? a = some c0) : AtC w a [c0] :=
 ⟨World.block_lt_of_cell? w a h0, fun c hc => by simp at hc; subst hc; exact h0, fun j c hj hc => by cases j with | zero => omega | succ j => simp at hc⟩
theorem AtC.of2 {w : World} {a : Addr} {c0 c1 : Value} (h0 : w.cell? a = some c0) (h1 : w.cell? ⟨a.block, a.off + 1, none⟩ = some c1) : AtC w a [c0, c1] :=
 ⟨World.block_lt_of_cell? w a h0, fun c hc => by simp at hc; subst hc; exact h0, fun j c hj hc => by
  match j, hj, hc with
  | 1, _, hc => simp at hc; subst hc; exact h1
  | j + 2, _, hc => simp at hc⟩
theorem rd_at (l : List Int) (k : Nat) (h : k < l.length) : rd l (k : Int) = l[k] := by simp [rd, List.getD_eq_getElem?_getD, h]
theorem AtC.ne {w : World} {a : Addr} {cs : List Value} (h : AtC w a cs) {g : Nat} (hg : w.heap.size ≤ g) : a.block ≠ g := by have := h.1; omega
theorem AtC.ne' {w : World} {a : Addr} {cs : List Value} (h : AtC w a cs) {g : Nat} (hg : w.heap.size ≤ g) : g ≠ a.block := by have := h.1; omega
def errW : Option Int → Value
  | none => .nilIface
  | some c => .iface 0 (.int .i64 c)
theorem errW_none : errW none = .nilIface := rfl
theorem errW_some (c : Int) : errW (some c) = .iface 0 (.int .i64 c) := rfl
theorem info2 : (Try.prog.info? 2).map (fun i => (i.zero, i.size, i.bytes)) = some (some (.int .i64 0), 1, 8) := by kernel_rfl
theorem info5 : (Try.prog.info? 5).map (fun i => (i.zero, i.size, i.bytes)) = some (some (.int .u8 0), 1, 1) := by kernel_rfl
theorem info24 : (Try.prog.info? 24).map (fun i => (i.zero, i.size, i.bytes)) = some (some (.slice none 0 0), 1, 24) := by kernel_rfl
theorem info27 : (Try.prog.info? 27).map (fun i => (i.zero, i.size, i.bytes)) = some (some (.agg #[(.int .i64 0), (.int .i64 0)]), 2, 16) := by kernel_rfl
def rd_L1 (xs : List (List Int)) (i : Int) : (List Int) := xs.getD i.toNat ([] : List Int)
theorem at_L1 {w : World} {A : Option Addr} {n : Nat} {xs : List (List Int)} (h : Kd.C (Kd.slice 2 (Kd.int .i64)) w A n xs) (i : Int) (h0 : 0 ≤ i) (h1 : i < n) : ∃ ad A0 c0, A = some ad ∧ w.cell? (ad.add i.toNat) = some (.slice A0 (rd_L1 xs i).length c0) ∧ (rd_L1 xs i).length ≤ c0 ∧ (Kd.int .i64).C w A0 (rd_L1 xs i).length (rd_L1 xs i) := by
 obtain ⟨ad, c, e, _, hK, hc0⟩ := Kd.C_get h ([] : List Int) i h0 h1
 have hc : ∀ j u, c[j]? = some u → w.cell? (ad.add (i.toNat * 1 + j)) = some u := hc0
 obtain ⟨A0, c0, rfl, l0, g0⟩ := hK
 exact ⟨ad, A0, c0, e, by have hq := hc 0 _ rfl; rwa [Nat.mul_one, Nat.add_zero] at hq, l0, g0⟩
structure S27 where
  f0 : Int
  f1 : Int
def z27 : S27 := ⟨(0 : Int), (0 : Int)⟩
def k27 : Kd S27 := Kd.iso (Kd.pair (Kd.int .i64) (Kd.int .i64)) (fun x : S27 => (x.f0, x.f1))
theorem k27_heap : Kd.Heap k27 := Kd.heap_iso _ (Kd.heap_pair (Kd.heap_int .i64) (Kd.heap_int .i64))
theorem k27_open {w : World} {x : S27} {cs : List Value} (h : k27.K w x cs) : cs = [.int .i64 x.f0, .int .i64 x.f1] := by
 obtain ⟨_, _, rfl, rfl, rfl⟩ := h
 exact rfl
theorem k27_openM {w : World} {base : Nat} {ok : Nat → Prop} {x : S27} {cs : List Value} (h : k27.M w base ok x cs) : cs = [.int .i64 x.f0, .int .i64 x.f1] := by
 obtain ⟨_, _, rfl, rfl, rfl⟩ := h
 exact rfl
theorem k27_mk (w : World) (x : S27)  : k27.K w x [.int .i64 x.f0, .int .i64 x.f1] := ⟨[.int .i64 x.f0], [.int .i64 x.f1], rfl, rfl, rfl⟩
theorem k27_mkM (w : World) (base : Nat) (ok : Nat → Prop) (x : S27)  : k27.M w base ok x [.int .i64 x.f0, .int .i64 x.f1] := ⟨[.int .i64 x.f0], [.int .i64 x.f1], rfl, rfl, rfl⟩
theorem k27_mkF (W : World) (ok : Nat → Prop) (x : S27) : Kd.FK k27 W ok x [.int .i64 x.f0, .int .i64 x.f1] := fun W2 _ => k27_mk W2 x
def rd_T27 (xs : List S27) (i : Int) : S27 := xs.getD i.toNat z27
theorem at_T27 {w : World} {A : Option Addr} {n : Nat} {xs : List S27} (h : Kd.C k27 w A n xs) (i : Int) (h0 : 0 ≤ i) (h1 : i < n) : ∃ ad , A = some ad ∧ w.cell? (ad.add (i.toNat * 2)) = some (.int .i64 (rd_T27 xs i).f0) ∧ w.cell? ⟨(ad.add (i.toNat * 2)).block, (ad.add (i.toNat * 2)).off + 1, none⟩ = some (.int .i64 (rd_T27 xs i).f1) := by
 obtain ⟨ad, c, e, _, hK, hc0⟩ := Kd.C_get h z27 i h0 h1
 have hc : ∀ j u, c[j]? = some u → w.cell? (ad.add (i.toNat * 2 + j)) = some u := hc0
 obtain rfl := k27_open hK
 exact ⟨ad, e, hc 0 _ rfl, by rw [← add_field _ _ 1 (by omega)]; exact hc 1 _ rfl⟩
theorem gate_copy {P : Program} {ops : Array Oper} {rest : List Oper} {o : Oper} {a : Act} {Q : Exit → Act → World → Prop} {W : World} {as0 : Array Operand} {ts : Array TypeId} (_h : o.op = .call { callee := .builtin .copy, args := as0, argTypes := ts }) (h : wpList P ops Q (o :: rest) a W) : wpList P ops Q (o :: rest) a W := h
theorem R_copy {P : Program} {ops : Array Oper} {rest : List Oper} {o : Oper} {a : Act} {Q : Exit → Act → World → Prop} {W : World} (hgd : o.guard = none) (d s : Operand) (dT sT : TypeId)
 (ho : o.op = .call { callee := .builtin .copy, args := #[d, s], argTypes := #[dT, sT] }) {e : Nat} (hu : P.underlying dT = some (.slice e)) (hsz : (P.info? e).map (·.size) = some 1) {ik : IntKind} {base : Nat} {ok : Nat → Prop} {v : Value} {xs ys : List Int} {A : Option Addr} {n c : Nat}
 (hd : a.eval d = v) (hs : a.eval s = .slice A n c) (HO : Kd.R (Kd.int ik) e W base ok v xs) (HC : Kd.C (Kd.int ik) W A n ys) (hl : ys.length ≤ xs.length) {B : Nat} {w0 : World} (HB : Below B w0 W) (hbase : B ≤ base)
 (h : ∀ w', Kd.R (Kd.int ik) e w' base ok v (ys ++ xs.drop ys.length) → Below B w0 w' → wpList P ops Q rest (a.put o.dst (goInt ys.length)) w') : wpList P ops Q (o :: rest) a W := by
 have hn : n = ys.length := HC.1.symm
 have hok := HO.1
 obtain ⟨hxl, hrow⟩ := Kd.own_of_R HO
 rcases hrow with ⟨rfl, h0⟩ | ⟨g, cap, cur, rfl, hg1, hg2, h3, h4, h5, h6⟩
 ·have hy : ys = [] := List.eq_nil_of_length_eq_zero (by omega)
  subst hy
  refine wpList_copy_nothing hgd d s dT sT ho e hu hsz none A 0 0 n c hd hs (by simp) ?_
  refine h W ?_ HB
  simpa using HO
 have hce : (encs (Value.int ik) ys).length = ys.length := by simp [encs]
 refine wpList_copy_splice hgd d s dT sT ho e hu hsz (some ⟨g, 0, none⟩) A xs.length cap n c hd hs g 0 cur.toList e (by simpa using hg2) (encs (Value.int ik) ys) (by rw [hce, hn]; exact (Nat.min_eq_left hl).symm) ?_ ?_ ?_ B w0 HB (Nat.le_trans hbase hg1) ?_
 ·intro hp
  refine ⟨rfl, ?_⟩
  obtain ⟨ad, e0, _⟩ := Kd.at_int HC 0 (by omega) (by omega)
  refine ⟨ad, e0, fun j u hj => ?_⟩
  simp only [encs, List.getElem?_map] at hj
  obtain ⟨x, hx, rfl⟩ := Option.map_eq_some_iff.1 hj
  have hlt := (List.getElem?_eq_some_iff.1 hx).1
  obtain ⟨ad', e1, hc⟩ := Kd.at_int HC (j : Int) (by omega) (by omega)
  rw [e0] at e1
  cases e1
  rw [rd_at ys j hlt, Int.toNat_natCast] at hc
  rw [hc, ← (List.getElem?_eq_some_iff.1 hx).2]
 ·have : cur.toList.length = cap * 1 := by simpa using h5
  rw [hce]; omega
 ·intro u hu'
  simp only [encs, List.mem_map] at hu'
  obtain ⟨x, _, rfl⟩ := hu'
  rfl
 intro w' hh hb
 have hcl : cur.toList.length = cap := by simpa using h5
 rw [hce]
 refine h w' ?_ hb
 refine Kd.R_of_own (h1 := fun _ => rfl) ⟨by simp [encs], .inr ⟨g, cap, (splice cur.toList 0 (encs (Value.int ik) ys)).toArray, ?_, hg1, hh.out, ?_, h4, ?_, ?_⟩⟩ hok
 ·simp; omega
 ·simp; omega
 ·simp [splice, hce]; omega
 have e1 : (ys ++ xs.drop ys.length).length * 1 = xs.length := by simp; omega
 rw [Nat.mul_one] at h6
 rw [e1]
 simp only [splice, List.take_zero, List.nil_append, Nat.zero_add]
 rw [List.take_append, List.take_of_length_le (by omega), hce]
 have e2 : encs (Value.int ik) (ys ++ xs.drop ys.length) = encs (Value.int ik) ys ++ (encs (Value.int ik) xs).drop ys.length := by simp [encs, List.map_drop]
 rw [e2, ← h6, List.drop_take]
theorem AtC.kept {w W : World} {a : Addr} {cs : List Value} {S : Nat → Prop} (h : AtC w a cs) (hk : Kept w W S) (hn : ¬ S a.block) : AtC W a cs := by
 have e : W.heap[a.block]? = w.heap[a.block]? := hk.2 _ h.1 hn
 have ec : ∀ o, W.cell? ⟨a.block, o, none⟩ = w.cell? ⟨a.block, o, none⟩ := fun o => by simp [World.cell?, e]
 have e0 : W.cell? a = w.cell? a := by simp [World.cell?, e]
 exact ⟨Nat.lt_of_lt_of_le h.1 hk.1, fun c hc => e0.trans (h.2.1 c hc), fun j c h0 hc => (ec _).trans (h.2.2 j c h0 hc)⟩
theorem gate_clear {P : Program} {ops : Array Oper} {rest : List Oper} {o : Oper} {a : Act} {Q : Exit → Act → World → Prop} {W : World} {as0 : Array Operand} {ts : Array TypeId} (_h : o.op = .call { callee := .builtin .clear, args := as0, argTypes := ts }) (h : wpList P ops Q (o :: rest) a W) : wpList P ops Q (o :: rest) a W := h
theorem R_clear {P : Program} {ops : Array Oper} {rest : List Oper} {o : Oper} {a : Act} {Q : Exit → Act → World → Prop} {W : World} (hgd : o.guard = none) (s : Operand) (sT : TypeId)
 (ho : o.op = .call { callee := .builtin .clear, args := #[s], argTypes := #[sT] }) {e : Nat} (hu : P.underlying sT = some (.slice e)) {ik : IntKind} {sz by_ : Nat} (hz : (P.info? e).map (fun i => (i.zero, i.size, i.bytes)) = some (some (.int ik 0), sz, by_))
 {base : Nat} {ok : Nat → Prop} {v : Value} {xs : List Int} {A0 A : Option Addr} {n0 c0 m c' N : Nat} (hv : v = .slice A0 n0 c0) (hs : a.eval s = .slice A m c') (hA : A = (if c0 = N then A0 else A0.map (·.add (N * 1)))) (hm : m = n0 - N) (hc : n0 ≤ c0)
 (HO : Kd.R (Kd.int ik) e W base ok v xs) {B : Nat} {w0 : World} (HB : Below B w0 W) (hbase : B ≤ base)
 (h : ∀ w', Kd.R (Kd.int ik) e w' base ok v (clrEnd xs N) → Below B w0 w' → W.grownBy w' v.ownBlock → wpList P ops Q rest (a.put o.dst (.tuple #[])) w') : wpList P ops Q (o :: rest) a W := by
 have hok := HO.1
 obtain ⟨hxl, hrow⟩ := Kd.own_of_R HO
 have hzv : ∀ w, (zeroValue e).run P w = .ok (.int ik 0) w := by
  intro w
  cases hq : P.info? e with
  | none => simp [hq] at hz
  | some i =>
   simp [hq] at hz
   simp [zeroValue, typeInfo, hq, hz.1]
 refine wpList_plain hgd fun K hK => ?_
 have hn : n0 = xs.length := by
  rcases hrow with ⟨rfl, h0⟩ | ⟨g, cap, cur, rfl, _⟩
  ·cases hv; exact h0.symm
  ·cases hv; rfl
 by_cases hm0 : m = 0
 ·have hrun : (Builtin.clear_ #[sT] o.type #[.slice A m c']).run P W = .ok (.tuple #[]) W := by
   rw [hm0]; cases A <;> simp [Builtin.clear_, run_underlying hu]
  unfold Oper.wp
  simp [execOp, ho, resolve, invoke, builtin, hs, hrun, Result.andThen]
  refine hK _ _ (h W ?_ HB (World.grownBy.refl _ _))
  have : clrEnd xs N = xs := by unfold clrEnd; rw [List.take_of_length_le (by omega), show xs.length - N = 0 by omega]; simp
  rw [this]; exact HO
 ·rcases hrow with ⟨rfl, h0⟩ | ⟨g, cap, cur, rfl, hg1, hg2, h3, h4, h5, h6⟩
  ·cases hv; omega
  ·cases hv
   rw [if_neg (by omega)] at hA
   have hA' : A = some ⟨g, N, none⟩ := by rw [hA]; simp [Addr.add]; try omega
   subst hA'
   have hcl : cur.size = c0 := by simpa using h5
   have hfit : N + 0 + (List.replicate m (Value.int ik 0)).length ≤ cur.size := by simp; omega
   have h1 : ∀ u ∈ List.replicate m (Value.int ik 0), u.oneCell' = true := fun u hu' => by rw [List.eq_of_mem_replicate hu']; rfl
   have hst := run_storeCells_at P g N e (List.replicate m (Value.int ik 0)) 0 cur W hg2 hfit h1
   have hzc : (Builtin.zeroCells (Value.int ik 0).cells m).toList = List.replicate m (Value.int ik 0) := by
    show (Builtin.zeroCells #[Value.int ik 0] m).toList = _
    simp [Builtin.zeroCells]
    apply List.ext_getElem
    ·simp
    ·intro i h1 h2; simp [Nat.mod_one]
   have hrun : (Builtin.clear_ #[sT] o.type #[.slice (some ⟨g, N, none⟩) m c']).run P W = .ok (.tuple #[]) (W.setRow g (cur.toList.take N ++ List.replicate m (Value.int ik 0) ++ cur.toList.drop (N + m)).toArray) := by
    obtain ⟨m', rfl⟩ : ∃ m', m = m' + 1 := ⟨m - 1, by omega⟩
    simp [Builtin.clear_, run_underlying hu, hzv, hzc]
    simp at hst
    rw [hst]; rfl
   unfold Oper.wp
   simp only [execOp, ho, resolve, invoke, builtin]
   simp [hs, hrun, Result.andThen]
   refine hK _ _ (h _ ?_ (below_setRow HB (Nat.le_trans hbase hg1) _) ⟨rfl, rfl, rfl, by simp [World.setRow], fun k hk hne => setRow_other W g k _ (fun e => hne (by rw [e]; rfl))⟩)
   have hh := setRow_heap W g cur (cur.toList.take N ++ (List.replicate m (Value.int ik 0) ++ cur.toList.drop (N + m))).toArray e _ hg2
   refine Kd.R_of_own (h1 := fun _ => rfl) ⟨by simp [encs], .inr ⟨g, c0, _, ?_, hg1, hh, ?_, h4, ?_, ?_⟩⟩ hok
   ·have : (clrEnd xs N).length = xs.length := by unfold clrEnd; simp; omega
    rw [this]
   ·have : (clrEnd xs N).length = xs.length := by unfold clrEnd; simp; omega
    rw [this]; omega
   ·simp; omega
   ·have e1 : (clrEnd xs N).length = xs.length := by unfold clrEnd; simp; omega
    have e2 : encs (Value.int ik) (clrEnd xs N) = (encs (Value.int ik) xs).take N ++ List.replicate (xs.length - N) (Value.int ik 0) := by simp [encs, clrEnd, List.map_take]
    have e3 : xs.length - N = m := by omega
    rw [Nat.mul_one] at h6
    rw [e2, ← h6, e3, e1, Nat.mul_one]
    have l1 : (List.take N cur.toList).length = N := by simp; omega
    rw [List.take_take, Nat.min_eq_left (show N ≤ xs.length by omega)]
    show List.take xs.length (List.take N cur.toList ++ (List.replicate m (Value.int ik 0) ++ List.drop (N + m) cur.toList)) = _
    rw [List.take_append, List.take_append, l1, List.take_of_length_le (by omega), List.take_of_length_le (show (List.replicate m (Value.int ik 0)).length ≤ xs.length - N by simp; omega), List.length_replicate, e3, Nat.sub_self, List.take_zero, List.append_nil]
theorem qSa {α : Type _} (l : List α) (i : Nat) (a : α) : l.toArray.setIfInBounds i a = (l.set i a).toArray := List.setIfInBounds_toArray ..
theorem qSb {α : Type _} (l : List α) (a b : α) : (a :: l).set 0 b = b :: l := rfl
theorem qSc {α : Type _} (l : List α) (a b : α) (n : Nat) : (a :: l).set (n + 1) b = a :: l.set n b := rfl
theorem tB {n : Nat} {w W0 W : World} (h0 : Below n w W0 := by exact HB.out) (h : Below n w W := by repeat (first | (with_reducible first | exact HB.out | apply bQA | apply bQN | apply bQ1 | refine bQS ?_ (Aq.out (by assumption)) | refine bQS ?_ (IsS76.ge HI0.out)) | exact HB.out)) : Below n w W := h
theorem tK {w W0 W : World} {g : Nat} {row : Option Nat} (h0 : KeepBut w W0 g row := by exact HK.out) (h : KeepBut w W g row := by repeat (first | (with_reducible first | exact HK.out | apply KeepBut.set_ | apply keep_drewN | apply keep_drew | apply keep_alloc | refine keep_far ?_ (Aq.out (by assumption)) _) | exact HK.out)) : KeepBut w W g row := h
theorem tG {p q : Prop} (h : q) (e : q → p := by intro h_; (with_reducible repeat (first | refine kQN ?_ _ | refine kQD ?_ | refine kQA ?_ _)); exact h_) : p := e h
theorem tQ {w0 w W : World} {g : Nat} {o : Obj} (h : w0.heap[g]? = some o) (hb : Below w.heap.size w W) (e : w0.heap[g]? = some o → w.heap[g]? = some o := by intro h_; (with_reducible repeat (first | refine kQN ?_ _ | refine kQD ?_ | refine kQA ?_ _)); exact h_) : W.heap[g]? = some o := kQB (e h) hb
theorem tR {p q : Prop} (h : q) (e : q → p := by intro h_; (with_reducible repeat (first | apply Kd.RqA | apply Kd.RqN | apply Kd.RqD)); exact h_) : p := e h
theorem tC {p q : Prop} (h : q) (e : q → p := by intro h_; repeat (first | exact h_ | (with_reducible refine Kd.CqA ?_ _) | (with_reducible refine Kd.CqN ?_ _) | (with_reducible refine Kd.CqD ?_))) : p := e h
theorem tL {p : Prop} (h : p := by (try simp only [List.map_toArray, List.map_cons, List.map_nil]); first | done | rfl | (simp only [List.length_drop, List.length_take]; rfl)) : p := h
theorem tS {p : Prop} (h : p := by first | rfl | (simp; done) | (simp [*]; done)) : p := h
theorem tO {p : Prop} (h : p := by first | omega | exact Nat.le_refl _) : p := h
theorem tE {p : Prop} (h : p := by first | rfl | (simp [errW_none, errW_some] <;> rfl) | (simp [*, errW_none, errW_some] <;> rfl)) : p := h
theorem tD {p : Prop} (h : p := by repeat (first | exact Dq.refl _ | apply Dq.step)) : p := h
theorem tW {p : Prop} (h : p := by first | exact ⟨rfl, _, World.drewN_drewN _ _ _⟩ | exact ⟨rfl, _, Eq.trans (World.drewN_drewN _ _ _) (congrArg (World.drewN _) (Nat.add_assoc _ _ _))⟩) : p := h
theorem tH {p : Prop} (h : p := by first | (go_simp; done) | (go_simp; rfl)) : p := h
theorem tA {p : Prop} (h : p := by first | (with_reducible assumption) | assumption) : p := h
theorem tM {p : Prop} (h : p := by have := HJ1.out; have := HK2.out; omega) : p := h
theorem tZ (w : World) {W : World} {g : Nat} (hg : g = W.heap.size) (e : Below w.heap.size w W := by exact tB) : w.heap.size ≤ g := hg ▸ e.size
theorem tcw {w W : World} {a : Addr} {v : Value} (h : Below w.heap.size w W) (k : w.cell? a = some v) : W.cell? a = some v := (h.cell (World.block_lt_of_cell? w _ k)).trans k
def bl : Nat → Nat → List Bool
 | 0, _ => []
 | n + 1, m => (m % 2 == 1) :: bl n (m / 2)
def bm (n m : Nat) : Array Bool := (bl n m).toArray
section
variable {P : Program} {ops : Array Oper} {Q : Exit → Act → World → Prop} {md : Region.Mode} {S : World → Prop} {ds : List Nat}
theorem tP0 (i n : Nat) (l' : Array Bool) {oi : Oper} {v : Value} {fuel : Nat} {l : Array Bool} {a a' : Act} {w : World} (h : wpAnyLast P md ops Q S ds fuel l' a' w) (hi : ops[i]? = some oi := by exact rfl) (hN : oi.dst = some n := by exact rfl) (hc : anyB md ops l l' i = true := by exact any_of HT_.out (by kernel_rfl)) (hQ : ∀ c a w, Q (.panic c) (a.put oi.dst v) w → Q (.panic c) a w := by exact fun _ _ _ h => h) (hy : Yields P ops oi v a := by exact Or.inl ⟨by rfl, by intro w'; go_simp; with_reducible rfl⟩) (ha : a.put (some n) v = a' := by simp only [Act.put, qSa, qSb, qSc, i64_w, i32_w]; rfl) : wpAnyLast P md ops Q S ds (fuel + 1) l a w := pure_ l' hi hN hc hQ hy ha h
theorem tT2 (i n : Nat) (l' : Array Bool) {oi : Oper} {v : Value} {fuel : Nat} {l : Array Bool} {a a' : Act} {w : World} (h : wpAnyLast P md ops Q S ds fuel l' a' w) (hi : ops[i]? = some oi := by exact rfl) (hN : oi.dst = some n := by exact rfl) (hc : takeB md ops ds l l' i = true := by exact take_ofW HT_.out HW_.out (by kernel_rfl)) (hQ : ∀ c a w, Q (.panic c) (a.put oi.dst v) w → Q (.panic c) a w := by exact fun _ _ _ h => h) (hy : YieldsIf P ops S oi v a := by exact Or.inl ⟨by rfl, by rintro w' ⟨s0, s1⟩; go_simp; with_reducible rfl⟩) (hS : S w := by exact hHeld) (ha : a.put (some n) v = a' := by simp only [Act.put, qSa, qSb, qSc, i64_w, i32_w]; rfl) : wpAnyLast P md ops Q S ds (fuel + 1) l a w := take_ l' hi hN hc hQ hy hS ha h
theorem tP0k (i n : Nat) (l' : Array Bool) {oi : Oper} {v : Value} {fuel : Nat} {l : Array Bool} {a a' : Act} {w : World} (h : wpAnyLast P md ops Q S ds fuel l' a' w) (hi : ops[i]? = some oi := by exact rfl) (hN : oi.dst = some n := by exact rfl) (hc : anyB md ops l l' i = true := by kernel_rfl) (hQ : ∀ c a w, Q (.panic c) (a.put oi.dst v) w → Q (.panic c) a w := by exact fun _ _ _ h => h) (hy : Yields P ops oi v a := by exact Or.inl ⟨by rfl, by intro w'; go_simp; with_reducible rfl⟩) (ha : a.put (some n) v = a' := by simp only [Act.put, qSa, qSb, qSc, i64_w, i32_w]; rfl) : wpAnyLast P md ops Q S ds (fuel + 1) l a w := pure_ l' hi hN hc hQ hy ha h
theorem tT2k (i n : Nat) (l' : Array Bool) {oi : Oper} {v : Value} {fuel : Nat} {l : Array Bool} {a a' : Act} {w : World} (h : wpAnyLast P md ops Q S ds fuel l' a' w) (hi : ops[i]? = some oi := by exact rfl) (hN : oi.dst = some n := by exact rfl) (hc : takeB md ops ds l l' i = true := by kernel_rfl) (hQ : ∀ c a w, Q (.panic c) (a.put oi.dst v) w → Q (.panic c) a w := by exact fun _ _ _ h => h) (hy : YieldsIf P ops S oi v a := by exact Or.inl ⟨by rfl, by rintro w' ⟨s0, s1⟩; go_simp; with_reducible rfl⟩) (hS : S w := by exact hHeld) (ha : a.put (some n) v = a' := by simp only [Act.put, qSa, qSb, qSc, i64_w, i32_w]; rfl) : wpAnyLast P md ops Q S ds (fuel + 1) l a w := take_ l' hi hN hc hQ hy hS ha h
theorem tT3 (i n : Nat) (l' : Array Bool) {oi : Oper} {v : Value} {fuel : Nat} {l : Array Bool} {a a' : Act} {w : World} (h : wpAnyLast P md ops Q S ds fuel l' a' w) (hi : ops[i]? = some oi := by exact rfl) (hN : oi.dst = some n := by exact rfl) (hc : takeB md ops ds l l' i = true := by exact take_ofW HT_.out HW_.out (by kernel_rfl)) (hQ : ∀ c a w, Q (.panic c) (a.put oi.dst v) w → Q (.panic c) a w := by exact fun _ _ _ h => h) (hy : YieldsIf P ops S oi v a := by exact Or.inl ⟨by rfl, by rintro w' ⟨s0, s1, s2⟩; go_simp; with_reducible rfl⟩) (hS : S w := by exact hHeld) (ha : a.put (some n) v = a' := by simp only [Act.put, qSa, qSb, qSc, i64_w, i32_w]; rfl) : wpAnyLast P md ops Q S ds (fuel + 1) l a w := take_ l' hi hN hc hQ hy hS ha h
theorem tT5 (i n : Nat) (l' : Array Bool) {oi : Oper} {v : Value} {fuel : Nat} {l : Array Bool} {a a' : Act} {w : World} (h : wpAnyLast P md ops Q S ds fuel l' a' w) (hi : ops[i]? = some oi := by exact rfl) (hN : oi.dst = some n := by exact rfl) (hc : takeB md ops ds l l' i = true := by exact take_ofW HT_.out HW_.out (by kernel_rfl)) (hQ : ∀ c a w, Q (.panic c) (a.put oi.dst v) w → Q (.panic c) a w := by exact fun _ _ _ h => h) (hy : YieldsIf P ops S oi v a := by exact Or.inl ⟨by rfl, by rintro w' ⟨s0, s1, s2, s3, s4⟩; go_simp; with_reducible rfl⟩) (hS : S w := by exact hHeld) (ha : a.put (some n) v = a' := by simp only [Act.put, qSa, qSb, qSc, i64_w, i32_w]; rfl) : wpAnyLast P md ops Q S ds (fuel + 1) l a w := take_ l' hi hN hc hQ hy hS ha h
theorem tN {fuel : Nat} {l : Array Bool} (n : Nat) {a0 a' : Act} {v : Value} {w : World} (h : wpAnyLast P md ops Q S ds fuel l a' w) (ha : a0.put (some n) v = a' := by simp only [Act.put, qSa, qSb, qSc, i64_w, i32_w]; rfl) : wpAnyLast P md ops Q S ds fuel l (a0.put (some n) v) w := norm_ ha h
end
theorem qBd {α β : Type} {o : Option α} {f : α → Option β} {r : β} (h : o.bind f = some r) : ∃ a, Aq (o = some a) ∧ f a = some r := by
 obtain ⟨a, b, c⟩ := Option.bind_eq_some_iff.mp h
 exact ⟨a, ⟨b⟩, c⟩
theorem qM1 {p a0 : Prop} (h0 : a0) (k : Aq a0 → p) : p := k ⟨h0⟩
theorem qM2 {p a0 a1 : Prop} (h0 : a0) (h1 : a1) (k : Aq a0 → Aq a1 → p) : p := k ⟨h0⟩ ⟨h1⟩
theorem qM3 {p a0 a1 a2 : Prop} (h0 : a0) (h1 : a1) (h2 : a2) (k : Aq a0 → Aq a1 → Aq a2 → p) : p := k ⟨h0⟩ ⟨h1⟩ ⟨h2⟩
theorem qM4 {p a0 a1 a2 a3 : Prop} (h0 : a0) (h1 : a1) (h2 : a2) (h3 : a3) (k : Aq a0 → Aq a1 → Aq a2 → Aq a3 → p) : p := k ⟨h0⟩ ⟨h1⟩ ⟨h2⟩ ⟨h3⟩
theorem qM5 {p a0 a1 a2 a3 a4 : Prop} (h0 : a0) (h1 : a1) (h2 : a2) (h3 : a3) (h4 : a4) (k : Aq a0 → Aq a1 → Aq a2 → Aq a3 → Aq a4 → p) : p := k ⟨h0⟩ ⟨h1⟩ ⟨h2⟩ ⟨h3⟩ ⟨h4⟩
theorem qM6 {p a0 a1 a2 a3 a4 a5 : Prop} (h0 : a0) (h1 : a1) (h2 : a2) (h3 : a3) (h4 : a4) (h5 : a5) (k : Aq a0 → Aq a1 → Aq a2 → Aq a3 → Aq a4 → Aq a5 → p) : p := k ⟨h0⟩ ⟨h1⟩ ⟨h2⟩ ⟨h3⟩ ⟨h4⟩ ⟨h5⟩
theorem qM7 {p a0 a1 a2 a3 a4 a5 a6 : Prop} (h0 : a0) (h1 : a1) (h2 : a2) (h3 : a3) (h4 : a4) (h5 : a5) (h6 : a6) (k : Aq a0 → Aq a1 → Aq a2 → Aq a3 → Aq a4 → Aq a5 → Aq a6 → p) : p := k ⟨h0⟩ ⟨h1⟩ ⟨h2⟩ ⟨h3⟩ ⟨h4⟩ ⟨h5⟩ ⟨h6⟩
theorem qM8 {p a0 a1 a2 a3 a4 a5 a6 a7 : Prop} (h0 : a0) (h1 : a1) (h2 : a2) (h3 : a3) (h4 : a4) (h5 : a5) (h6 : a6) (h7 : a7) (k : Aq a0 → Aq a1 → Aq a2 → Aq a3 → Aq a4 → Aq a5 → Aq a6 → Aq a7 → p) : p := k ⟨h0⟩ ⟨h1⟩ ⟨h2⟩ ⟨h3⟩ ⟨h4⟩ ⟨h5⟩ ⟨h6⟩ ⟨h7⟩
theorem qM9 {p a0 a1 a2 a3 a4 a5 a6 a7 a8 : Prop} (h0 : a0) (h1 : a1) (h2 : a2) (h3 : a3) (h4 : a4) (h5 : a5) (h6 : a6) (h7 : a7) (h8 : a8) (k : Aq a0 → Aq a1 → Aq a2 → Aq a3 → Aq a4 → Aq a5 → Aq a6 → Aq a7 → Aq a8 → p) : p := k ⟨h0⟩ ⟨h1⟩ ⟨h2⟩ ⟨h3⟩ ⟨h4⟩ ⟨h5⟩ ⟨h6⟩ ⟨h7⟩ ⟨h8⟩
theorem qM10 {p a0 a1 a2 a3 a4 a5 a6 a7 a8 a9 : Prop} (h0 : a0) (h1 : a1) (h2 : a2) (h3 : a3) (h4 : a4) (h5 : a5) (h6 : a6) (h7 : a7) (h8 : a8) (h9 : a9) (k : Aq a0 → Aq a1 → Aq a2 → Aq a3 → Aq a4 → Aq a5 → Aq a6 → Aq a7 → Aq a8 → Aq a9 → p) : p := k ⟨h0⟩ ⟨h1⟩ ⟨h2⟩ ⟨h3⟩ ⟨h4⟩ ⟨h5⟩ ⟨h6⟩ ⟨h7⟩ ⟨h8⟩ ⟨h9⟩
theorem qM11 {p a0 a1 a2 a3 a4 a5 a6 a7 a8 a9 a10 : Prop} (h0 : a0) (h1 : a1) (h2 : a2) (h3 : a3) (h4 : a4) (h5 : a5) (h6 : a6) (h7 : a7) (h8 : a8) (h9 : a9) (h10 : a10) (k : Aq a0 → Aq a1 → Aq a2 → Aq a3 → Aq a4 → Aq a5 → Aq a6 → Aq a7 → Aq a8 → Aq a9 → Aq a10 → p) : p := k ⟨h0⟩ ⟨h1⟩ ⟨h2⟩ ⟨h3⟩ ⟨h4⟩ ⟨h5⟩ ⟨h6⟩ ⟨h7⟩ ⟨h8⟩ ⟨h9⟩ ⟨h10⟩
theorem qM12 {p a0 a1 a2 a3 a4 a5 a6 a7 a8 a9 a10 a11 : Prop} (h0 : a0) (h1 : a1) (h2 : a2) (h3 : a3) (h4 : a4) (h5 : a5) (h6 : a6) (h7 : a7) (h8 : a8) (h9 : a9) (h10 : a10) (h11 : a11) (k : Aq a0 → Aq a1 → Aq a2 → Aq a3 → Aq a4 → Aq a5 → Aq a6 → Aq a7 → Aq a8 → Aq a9 → Aq a10 → Aq a11 → p) : p := k ⟨h0⟩ ⟨h1⟩ ⟨h2⟩ ⟨h3⟩ ⟨h4⟩ ⟨h5⟩ ⟨h6⟩ ⟨h7⟩ ⟨h8⟩ ⟨h9⟩ ⟨h10⟩ ⟨h11⟩
end Go.Proofs.Ytkhjoomjjdgkjaa.P
