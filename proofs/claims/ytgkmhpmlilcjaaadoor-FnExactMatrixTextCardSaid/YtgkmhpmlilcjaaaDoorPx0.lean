-- written by a program of this seat's prover (wip/myprint.py) over the kit's print
import Derived.Test.YtgkmhpmlilcjaaaDoorProg
import Derived.Below
import Derived.Deep.Draws
import Derived.Deep.AppendLies
import Derived.Maps.AppendAt
import Derived.OwnWalk
import Derived.Laws.BytesArg
import Derived.Laws.MakeOwn
import Derived.Laws.OwnMore
import Derived.Deep.OwnRows
import Derived.Tactics
import Derived.Lib.ConvBytes
import Derived.Laws.Slices
import Derived.WalkKit
import Derived.KernelRfl
import Derived.RowKit3
import Derived.Deep.LoopGhost
import Derived.Deep.QuietTactic
import Derived.BigQuiet
import Derived.WideLaws
import Derived.Deep.DeepCutAuto
import Derived.Deep.CutBlock
import Derived.Deep.RegionHeld3
import Derived.Laws.Rows
import Derived.Lib.AppendStr
import Derived.ArgAppend
import Derived.Laws.IdiomCopy
import Derived.OrdersHeld
import Derived.Laws.BitsLemmas
import Derived.RowKit
import Derived.Shelf.Abstract
import Derived.Shelf.Strconv.Itoa4
import Derived.Test.YtgkmhpmlilcjaaaDoorWWords
import Derived.Test.YtgkmhpmlilcjaaaDoorWLast
import Derived.Test.YtgkmhpmlilcjaaaDoorWTab
import Derived.Test.YtgkmhpmlilcjaaaDoorWFour
import Derived.Test.YtgkmhpmlilcjaaaDoorWQPut
import Derived.Test.YtgkmhpmlilcjaaaDoorWApart
import Derived.Test.YtgkmhpmlilcjaaaDoorWArr
import Derived.Test.YtgkmhpmlilcjaaaDoorWZeros
import Derived.Test.YtgkmhpmlilcjaaaDoorWFoot
import Derived.Test.YtgkmhpmlilcjaaaDoorWKept
import Derived.Test.YtgkmhpmlilcjaaaDoorWShare
import Derived.Test.YtgkmhpmlilcjaaaDoorWN
import Derived.Test.YtgkmhpmlilcjaaaDoorWFootNe
import Derived.Test.YtgkmhpmlilcjaaaDoorWAt
import Derived.Test.YtgkmhpmlilcjaaaDoorWEqStruct
import Derived.Test.YtgkmhpmlilcjaaaDoorWRepsOne
import Derived.Test.YtgkmhpmlilcjaaaDoorWInv
import Derived.Test.YtgkmhpmlilcjaaaDoorWInvWords
import Derived.Test.YtgkmhpmlilcjaaaDoorWGuard
import Derived.Test.YtgkmhpmlilcjaaaDoorWNEv
import Derived.Test.YtgkmhpmlilcjaaaDoorWMore
namespace Go.Proofs.YtgkmhpmlilcjaaaDoor.P
open Go.Shelf Go.RowKit Go.Proofs.YtgkmhpmlilcjaaaDoorW.PrintWords Go.Proofs.YtgkmhpmlilcjaaaDoorW.PrintLast Go.Proofs.YtgkmhpmlilcjaaaDoorW.PrintMore
attribute [local go_sem] max2_int min2_int max_two min_two max_three min_three max_four min_four   -- for this text's walks alone
set_option linter.unusedVariables false
set_option linter.unusedSimpArgs false


/-- A row whose end is cleared. -/
def clrEnd (l : List Int) (k : Nat) : List Int := l.take k ++ List.replicate (l.length - k) 0
/-- Cells behind an address that came in. -/
def AtC (w : World) (a : Addr) (cs : List Value) : Prop := a.block < w.heap.size ∧ (∀ c, cs[0]? = some c → w.cell? a = some c) ∧ ∀ j c, 0 < j → cs[j]? = some c → w.cell? ⟨a.block, a.off + j, none⟩ = some c
theorem AtC.below {w W : World} {a : Addr} {cs : List Value} (h : AtC w a cs) (hb : Below w.heap.size w W) : AtC W a cs :=
  ⟨Nat.lt_of_lt_of_le h.1 hb.size, fun c hc => (hb.cell h.1).trans (h.2.1 c hc), fun j c h0 hc => (hb.cell (p := ⟨a.block, a.off + j, none⟩) h.1).trans (h.2.2 j c h0 hc)⟩
theorem AtC.alloc {w : World} {a : Addr} {cs : List Value} (h : AtC w a cs) (o : Obj) : AtC (w.alloc o) a cs := h.below (below_alloc (Below.refl _ _) o)
theorem AtC.drew {w : World} {a : Addr} {cs : List Value} (h : AtC w a cs) : AtC w.drew a cs := h.below (below_drew1 (Below.refl _ _))
theorem AtC.drewN {w : World} {a : Addr} {cs : List Value} (h : AtC w a cs) (n : Nat) : AtC (w.drewN n) a cs := h.below (pw_below_drewN (Below.refl _ _) n)
theorem AtC.cell0 {w : World} {a : Addr} {cs : List Value} (h : AtC w a cs) (c : Value) (hc : cs[0]? = some c) : w.cell? a = some c := h.2.1 c hc
theorem AtC.cell {w : World} {a : Addr} {cs : List Value} (h : AtC w a cs) (j : Nat) (c : Value) (h0 : 0 < j) (hc : cs[j]? = some c) : w.cell? ⟨a.block, a.off + j, none⟩ = some c := h.2.2 j c h0 hc
theorem AtC.of_blk {w : World} {g t : Nat} {cs : Array Value} {l : List Value} (h : w.heap[g]? = some (.cells cs t (0, 0))) (hl : cs.toList = l) : AtC w ⟨g, 0, none⟩ l := by
  subst hl
  refine ⟨blk_lt h, fun c hc => ?_, fun j c _ hc => ?_⟩
  · rw [blk_cell h 0]; simpa using hc
  · show w.cell? ⟨g, 0 + j, none⟩ = some c
    rw [Nat.zero_add, blk_cell h j]; simpa using hc
theorem AtC.of1 {w : World} {a : Addr} {c0 : Value} (h0 : w.cell? a = some c0) : AtC w a [c0] :=
  ⟨World.block_lt_of_cell? w a h0, fun c hc => by simp at hc; subst hc; exact h0, fun j c hj hc => by cases j with | zero => omega | succ j => simp at hc⟩
theorem AtC.of2 {w : World} {a : Addr} {c0 c1 : Value} (h0 : w.cell? a = some c0) (h1 : w.cell? ⟨a.block, a.off + 1, none⟩ = some c1) : AtC w a [c0, c1] :=
  ⟨World.block_lt_of_cell? w a h0, fun c hc => by simp at hc; subst hc; exact h0, fun j c hj hc => by
    match j, hj, hc with
    | 1, _, hc => simp at hc; subst hc; exact h1
    | j + 2, _, hc => simp at hc⟩
theorem rd_at (l : List Int) (k : Nat) (h : k < l.length) : rd l (k : Int) = l[k] := by simp [rd, List.getD_eq_getElem?_getD, h]
theorem AtC.ne {w : World} {a : Addr} {cs : List Value} (h : AtC w a cs) {g : Nat} (hg : w.heap.size ≤ g) : a.block ≠ g := by have := h.1; omega
theorem AtC.ne' {w : World} {a : Addr} {cs : List Value} (h : AtC w a cs) {g : Nat} (hg : w.heap.size ≤ g) : g ≠ a.block := by have := h.1; omega



def errW : Option Int → Value
  | none => .nilIface
  | some c => .iface 0 (.int .i64 c)
theorem errW_none : errW none = .nilIface := rfl
theorem errW_some (c : Int) : errW (some c) = .iface 0 (.int .i64 c) := rfl

theorem info2 : (Tryd.prog.info? 2).map (fun i => (i.zero, i.size, i.bytes)) = some (some (.int .i64 0), 1, 8) := by kernel_rfl
theorem info5 : (Tryd.prog.info? 5).map (fun i => (i.zero, i.size, i.bytes)) = some (some (.int .u8 0), 1, 1) := by kernel_rfl
-- the values' own types

end Go.Proofs.YtgkmhpmlilcjaaaDoor.P
