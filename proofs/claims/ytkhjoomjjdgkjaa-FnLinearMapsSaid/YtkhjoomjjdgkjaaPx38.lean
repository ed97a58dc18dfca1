/- Functions of the program and what they tell, as the printing program wrote it. -/
import Derived.Test.YtkhjoomjjdgkjaaPx0
import Derived.Test.YtkhjoomjjdgkjaaPx2
import Derived.Test.YtkhjoomjjdgkjaaPx18
import Derived.Test.YtkhjoomjjdgkjaaPx19
import Derived.Test.YtkhjoomjjdgkjaaPx20
import Derived.Test.YtkhjoomjjdgkjaaPx28
import Derived.Test.YtkhjoomjjdgkjaaPx29
import Derived.Test.YtkhjoomjjdgkjaaPx30
import Derived.Test.YtkhjoomjjdgkjaaPx33
import Derived.Test.YtkhjoomjjdgkjaaPx38a
import Derived.Test.YtkhjoomjjdgkjaaPx38b
import Derived.Test.YtkhjoomjjdgkjaaPx38c
import Derived.Test.YtkhjoomjjdgkjaaPx38p
namespace Go.Proofs.Ytkhjoomjjdgkjaa.P
open Go.Shelf Go.RowKit Go.Proofs.YtkhjoomjjdgkjaaW.PrintWords Go.Proofs.YtkhjoomjjdgkjaaW.PrintLast Go.Proofs.YtkhjoomjjdgkjaaW.PrintMore
attribute [local go_sem] max2_int min2_int max_two min_two max_three min_three max_four min_four
set_option linter.unusedVariables false
set_option linter.unusedSimpArgs false
set_option maxHeartbeats 8000000
set_option maxRecDepth 100000
theorem laws_FnLinearMaps.calls (k : Nat) (A0 : Option Addr) (c0 : Nat) (l0 : List Int) (A1 : Option Addr) (c1 : Nat) (l1 : List Int) (r : Bool) (w : World) (hr0 : Kd.C (Kd.int .u8) w A0 l0.length l0) (hc0 : l0.length ≤ c0) (hr1 : Kd.C (Kd.int .u8) w A1 l1.length l1) (hc1 : l1.length ≤ c1) (h : laws_FnLinearMaps.f k l0 l1 = some r) :
 Calls Try.prog 7 #[.slice A0 l0.length c0, .slice A1 l1.length c1] w fun e w' => e = .returned (.bool r) ∧ Below w.heap.size w w' := laws_FnLinearMaps.G0.2 ⟨laws_FnLinearMaps.G1.2.2.2.2.2.2.2.2.2.2.2.2.2.2 ⟨laws_FnLinearMaps.G2⟩ ⟨laws_FnLinearMaps.G3⟩ ⟨laws_FnLinearMaps.G4⟩ ⟨laws_FnLinearMaps.G5⟩ ⟨laws_FnLinearMaps.G6⟩ ⟨laws_FnLinearMaps.G7⟩ ⟨laws_FnLinearMaps.G8⟩ ⟨laws_FnLinearMaps.G9⟩ ⟨laws_FnLinearMaps.G10⟩ ⟨laws_FnLinearMaps.G11⟩ ⟨laws_FnLinearMaps.G12⟩ ⟨laws_FnLinearMaps.G13⟩ ⟨laws_FnLinearMaps.G14⟩ ⟨laws_FnLinearMaps.G15.2.2 ⟨laws_FnLinearMaps.G16⟩ ⟨laws_FnLinearMaps.G17⟩⟩⟩ k A0 c0 l0 A1 c1 l1 r w hr0 hc0 hr1 hc1 h
end Go.Proofs.Ytkhjoomjjdgkjaa.P
