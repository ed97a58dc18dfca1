/- Functions of the program and what they tell, as the printing program wrote it. -/
import Derived.Test.YthjfilmdobkmlaaPx0
import Derived.Test.YthjfilmdobkmlaaPx4
import Derived.Test.YthjfilmdobkmlaaPx7
import Derived.Test.YthjfilmdobkmlaaPx9
import Derived.Test.YthjfilmdobkmlaaPx13
import Derived.Test.YthjfilmdobkmlaaPx15
import Derived.Test.YthjfilmdobkmlaaPx17
import Derived.Test.YthjfilmdobkmlaaPx18
import Derived.Test.YthjfilmdobkmlaaPx19
import Derived.Test.YthjfilmdobkmlaaPx40a
import Derived.Test.YthjfilmdobkmlaaPx40b
import Derived.Test.YthjfilmdobkmlaaPx40e
import Derived.Test.YthjfilmdobkmlaaPx40f
import Derived.Test.YthjfilmdobkmlaaPx40g
import Derived.Test.YthjfilmdobkmlaaPx40l
import Derived.Test.YthjfilmdobkmlaaPx40m
import Derived.Test.YthjfilmdobkmlaaPx40n
import Derived.Test.YthjfilmdobkmlaaPx40o
namespace Go.Proofs.Ythjfilmdobkmlaa.P
open Go.Shelf Go.RowKit Go.Proofs.YthjfilmdobkmlaaW.PrintWords Go.Proofs.YthjfilmdobkmlaaW.PrintLast Go.Proofs.YthjfilmdobkmlaaW.PrintMore
attribute [local go_sem] max2_int min2_int max_two min_two max_three min_three max_four min_four
set_option linter.unusedVariables false
set_option linter.unusedSimpArgs false
set_option maxHeartbeats 8000000
set_option maxRecDepth 100000
theorem laws_FnRanks.calls (k : Nat) (A0 : Option Addr) (c0 : Nat) (l0 : List Int) (A1 : Option Addr) (c1 : Nat) (l1 : List Int) (r : Bool) (w : World) (hr0 : Kd.C (Kd.int .u8) w A0 l0.length l0) (hc0 : l0.length ≤ c0) (hr1 : Kd.C (Kd.int .u8) w A1 l1.length l1) (hc1 : l1.length ≤ c1) (h : laws_FnRanks.f k l0 l1 = some r) :
 Calls Try.prog 3 #[.slice A0 l0.length c0, .slice A1 l1.length c1] w fun e w' => e = .returned (.bool r) ∧ Below w.heap.size w w' := laws_FnRanks.G0.2.2.2.2 ⟨laws_FnRanks.G1⟩ ⟨laws_FnRanks.G2⟩ ⟨laws_FnRanks.G3⟩ ⟨laws_FnRanks.G4.2 ⟨laws_FnRanks.G5.2.2.2.2.2.2.2.2 ⟨laws_FnRanks.G6⟩ ⟨laws_FnRanks.G7⟩ ⟨laws_FnRanks.G8⟩ ⟨laws_FnRanks.G9⟩ ⟨laws_FnRanks.G10⟩ ⟨laws_FnRanks.G11⟩ ⟨laws_FnRanks.G12⟩ ⟨laws_FnRanks.G13.2 ⟨laws_FnRanks.G14⟩⟩⟩⟩ k A0 c0 l0 A1 c1 l1 r w hr0 hc0 hr1 hc1 h
end Go.Proofs.Ythjfilmdobkmlaa.P
