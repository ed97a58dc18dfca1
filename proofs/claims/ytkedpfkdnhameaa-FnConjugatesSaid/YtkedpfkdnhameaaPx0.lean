/- Functions of the program and what they tell, as the printing program wrote it. -/
import Derived.Test.YtkedpfkdnhameaaProg
import Derived.Below
import Derived.Deep.Draws
import Derived.Deep.AppendLies
import Derived.Maps.AppendAt
import Derived.OwnWalk
import Derived.Laws.BytesArg
import Derived.Laws.MakeOwn
import Derived.Laws.OwnMore
import Derived.Deep.OwnRows
import Derived.Tactics
import Derived.Lib.ConvBytes
import Derived.Laws.Slices
import Derived.WalkKit
import Derived.KernelRfl
import Derived.RowKit3
import Derived.Deep.LoopGhost
import Derived.Deep.QuietTactic
import Derived.BigQuiet
import Derived.WideLaws
import Derived.Deep.DeepCutAuto
import Derived.Deep.CutBlock
import Derived.Deep.RegionHeld3
import Derived.Laws.Rows
import Derived.Lib.AppendStr
import Derived.ArgAppend
import Derived.Laws.IdiomCopy
import Derived.OrdersHeld
import Derived.Laws.BitsLemmas
import Derived.RowKit
import Derived.Shelf.Abstract
import Derived.Test.YtkedpfkdnhameaaWWords
import Derived.Test.YtkedpfkdnhameaaWLast
import Derived.Test.YtkedpfkdnhameaaWTab
import Derived.Test.YtkedpfkdnhameaaWFour
import Derived.Test.YtkedpfkdnhameaaWQPut
import Derived.Test.YtkedpfkdnhameaaWApart
import Derived.Test.YtkedpfkdnhameaaWArr
import Derived.Test.YtkedpfkdnhameaaWZeros
import Derived.Test.YtkedpfkdnhameaaWFoot
import Derived.Test.YtkedpfkdnhameaaWKept
import Derived.Test.YtkedpfkdnhameaaWShare
import Derived.Test.YtkedpfkdnhameaaWN
import Derived.Test.YtkedpfkdnhameaaWFootNe
import Derived.Test.YtkedpfkdnhameaaWAt
import Derived.Test.YtkedpfkdnhameaaWEqStruct
import Derived.Test.YtkedpfkdnhameaaWRepsOne
import Derived.Test.YtkedpfkdnhameaaWInv
import Derived.Test.YtkedpfkdnhameaaWInvWords
import Derived.Test.YtkedpfkdnhameaaWGuard
import Derived.Test.YtkedpfkdnhameaaWNEv
import Derived.Test.YtkedpfkdnhameaaWMore
namespace Go.Proofs.Ytkedpfkdnhameaa.P
open Go.Shelf Go.RowKit Go.Proofs.YtkedpfkdnhameaaW.PrintWords Go.Proofs.YtkedpfkdnhameaaW.PrintLast Go.Proofs.YtkedpfkdnhameaaW.PrintMore
attribute [local go_sem] max2_int min2_int max_two min_two max_three min_three max_four min_four
set_option linter.unusedVariables false
set_option linter.unusedSimpArgs false
def AtC (w : World) (a : Addr) (cs : List Value) : Prop := a.block < w.heap.size ∧ (∀ c, cs[0]? = some c → w.cell? a = some c) ∧ ∀ j c, 0 < j → cs[j]? = some c → w.cell? ⟨a.block, a.off + j, none⟩ = some c
theorem AtC.below {w W : World} {a : Addr} {cs : List Value} (h : AtC w a cs) (hb : Below w.heap.size w W) : AtC W a cs :=
 ⟨Nat.lt_of_lt_of_le h.1 hb.size, fun c hc => (hb.cell h.1).trans (h.2.1 c hc), fun j c h0 hc => (hb.cell (p := ⟨a.block, a.off + j, none⟩) h.1).trans (h.2.2 j c h0 hc)⟩
theorem AtC.alloc {w : World} {a : Addr} {cs : List Value} (h : AtC w a cs) (o : Obj) : AtC (w.alloc o) a cs := h.below (bQA (Below.refl _ _) o)
theorem AtC.drew {w : World} {a : Addr} {cs : List Value} (h : AtC w a cs) : AtC w.drew a cs := h.below (bQ1 (Below.refl _ _))
theorem AtC.drewN {w : World} {a : Addr} {cs : List Value} (h : AtC w a cs) (n : Nat) : AtC (w.drewN n) a cs := h.below (bQN (Below.refl _ _) n)
theorem AtC.cell0 {w : World} {a : Addr} {cs : List Value} (h : AtC w a cs) (c : Value) (hc : cs[0]? = some c) : w.cell? a = some c := h.2.1 c hc
theorem AtC.cell {w : World} {a : Addr} {cs : List Value} (h : AtC w a cs) (j : Nat) (c : Value) (h0 : 0 < j) (hc : cs[j]? = some c) : w.cell? ⟨a.block, a.off + j, none⟩ = some c := h.2.2 j c h0 hc
theorem AtC.of_blk {w : World} {g t : Nat} {cs : Array Value} {l : List Value} (h : w.heap[g]? = some (.cells cs t (0, 0))) (hl : cs.toList = l) : AtC w ⟨g, 0, none⟩ l := by
 subst hl
 refine ⟨blk_lt h, fun c hc => ?_, fun j c _ hc => ?_⟩
 ·rw [kQC h 0]; simpa using hc
 ·show w.cell? ⟨g, 0 + j, none⟩ = some c
  rw [Nat.zero_add, kQC h j]; simpa using hc
theorem AtC.of1 {w : World} {a : Addr} {c0 : Value} (h0 : w.cell? a = some c0) : AtC w a [c0] :=
 ⟨World.block_lt_of_cell? w a h0, fun c hc => by simp at hc; subst hc; exact h0, fun j c hj hc => by cases j with | zero => omega | succ j => simp at hc⟩
theorem AtC.of2 {w : World} {a : Addr} {c0 c1 : Value} (h0 : w.cell? a = some c0) (h1 : w.cell? ⟨a.block, a.off + 1, none⟩ = some c1) : AtC w a [c0, c1] :=
 ⟨World.block_lt_of_cell? w a h0, fun c hc => by simp at hc; subst hc; exact h0, fun j c hj hc => by
  match j, hj, hc with
  | 1, _, hc => simp at hc; subst hc; exact h1
  | j + 2, _, hc => simp at hc⟩
theorem rd_at (l : List Int) (k : Nat) (h : k < l.length) : rd l (k : Int) = l[k] := by simp [rd, List.getD_eq_getElem?_getD, h]
theorem AtC.ne {w : World} {a : Addr} {cs : List Value} (h : AtC w a cs) {g : Nat} (hg : w.heap.size ≤ g) : a.block ≠ g := by have := h.1; omega
theorem AtC.ne' {w : World} {a : Addr} {cs : List Value} (h : AtC w a cs) {g : Nat} (hg : w.heap.size ≤ g) : g ≠ a.block := by have := h.1; omega
def errW : Option Int → Value
  | none => .nilIface
  | some c => .iface 0 (.int .i64 c)
theorem errW_none : errW none = .nilIface := rfl
theorem errW_some (c : Int) : errW (some c) = .iface 0 (.int .i64 c) := rfl
theorem info2 : (Try.prog.info? 2).map (fun i => (i.zero, i.size, i.bytes)) = some (some (.int .i64 0), 1, 8) := by kernel_rfl
theorem info25 : (Try.prog.info? 25).map (fun i => (i.zero, i.size, i.bytes)) = some (some (.agg #[(.int .i64 0), (.int .i64 0)]), 2, 16) := by kernel_rfl
structure S25 where
  f0 : Int
  f1 : Int
def z25 : S25 := ⟨(0 : Int), (0 : Int)⟩
def k25 : Kd S25 := Kd.iso (Kd.pair (Kd.int .i64) (Kd.int .i64)) (fun x : S25 => (x.f0, x.f1))
theorem k25_open {w : World} {x : S25} {cs : List Value} (h : k25.K w x cs) : cs = [.int .i64 x.f0, .int .i64 x.f1] := by
 obtain ⟨_, _, rfl, rfl, rfl⟩ := h
 exact rfl
theorem k25_openM {w : World} {base : Nat} {ok : Nat → Prop} {x : S25} {cs : List Value} (h : k25.M w base ok x cs) : cs = [.int .i64 x.f0, .int .i64 x.f1] := by
 obtain ⟨_, _, rfl, rfl, rfl⟩ := h
 exact rfl
theorem k25_mk (w : World) (x : S25)  : k25.K w x [.int .i64 x.f0, .int .i64 x.f1] := ⟨[.int .i64 x.f0], [.int .i64 x.f1], rfl, rfl, rfl⟩
theorem k25_mkM (w : World) (base : Nat) (ok : Nat → Prop) (x : S25)  : k25.M w base ok x [.int .i64 x.f0, .int .i64 x.f1] := ⟨[.int .i64 x.f0], [.int .i64 x.f1], rfl, rfl, rfl⟩
def rd_T25 (xs : List S25) (i : Int) : S25 := xs.getD i.toNat z25
theorem at_T25 {w : World} {A : Option Addr} {n : Nat} {xs : List S25} (h : Kd.C k25 w A n xs) (i : Int) (h0 : 0 ≤ i) (h1 : i < n) : ∃ ad , A = some ad ∧ w.cell? (ad.add (i.toNat * 2)) = some (.int .i64 (rd_T25 xs i).f0) ∧ w.cell? ⟨(ad.add (i.toNat * 2)).block, (ad.add (i.toNat * 2)).off + 1, none⟩ = some (.int .i64 (rd_T25 xs i).f1) := by
 obtain ⟨ad, c, e, _, hK, hc0⟩ := Kd.C_get h z25 i h0 h1
 have hc : ∀ j u, c[j]? = some u → w.cell? (ad.add (i.toNat * 2 + j)) = some u := hc0
 obtain rfl := k25_open hK
 exact ⟨ad, e, hc 0 _ rfl, by rw [← add_field _ _ 1 (by omega)]; exact hc 1 _ rfl⟩
theorem qSa {α : Type _} (l : List α) (i : Nat) (a : α) : l.toArray.setIfInBounds i a = (l.set i a).toArray := List.setIfInBounds_toArray ..
theorem qSb {α : Type _} (l : List α) (a b : α) : (a :: l).set 0 b = b :: l := rfl
theorem qSc {α : Type _} (l : List α) (a b : α) (n : Nat) : (a :: l).set (n + 1) b = a :: l.set n b := rfl
end Go.Proofs.Ytkedpfkdnhameaa.P
