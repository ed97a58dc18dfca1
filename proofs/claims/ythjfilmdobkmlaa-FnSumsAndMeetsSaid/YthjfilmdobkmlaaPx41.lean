/- Functions of the program and what they tell, as the printing program wrote it. -/
import Derived.Test.YthjfilmdobkmlaaPx0
import Derived.Test.YthjfilmdobkmlaaPx7
import Derived.Test.YthjfilmdobkmlaaPx9
import Derived.Test.YthjfilmdobkmlaaPx20
import Derived.Test.YthjfilmdobkmlaaPx22
import Derived.Test.YthjfilmdobkmlaaPx23
import Derived.Test.YthjfilmdobkmlaaPx24
import Derived.Test.YthjfilmdobkmlaaPx41a
import Derived.Test.YthjfilmdobkmlaaPx41b
import Derived.Test.YthjfilmdobkmlaaPx41c
import Derived.Test.YthjfilmdobkmlaaPx41d
import Derived.Test.YthjfilmdobkmlaaPx41e
import Derived.Test.YthjfilmdobkmlaaPx41f
import Derived.Test.YthjfilmdobkmlaaPx41g
import Derived.Test.YthjfilmdobkmlaaPx41h
import Derived.Test.YthjfilmdobkmlaaPx41i
import Derived.Test.YthjfilmdobkmlaaPx41j
namespace Go.Proofs.Ythjfilmdobkmlaa.P
open Go.Shelf Go.RowKit Go.Proofs.YthjfilmdobkmlaaW.PrintWords Go.Proofs.YthjfilmdobkmlaaW.PrintLast Go.Proofs.YthjfilmdobkmlaaW.PrintMore
attribute [local go_sem] max2_int min2_int max_two min_two max_three min_three max_four min_four
set_option linter.unusedVariables false
set_option linter.unusedSimpArgs false
set_option maxHeartbeats 8000000
set_option maxRecDepth 100000
theorem laws_FnSumsAndMeets.calls (k : Nat) (A0 : Option Addr) (c0 : Nat) (l0 : List Int) (A1 : Option Addr) (c1 : Nat) (l1 : List Int) (r : Bool) (w : World) (hr0 : Kd.C (Kd.int .u8) w A0 l0.length l0) (hc0 : l0.length ≤ c0) (hr1 : Kd.C (Kd.int .u8) w A1 l1.length l1) (hc1 : l1.length ≤ c1) (h : laws_FnSumsAndMeets.f k l0 l1 = some r) :
 Calls Try.prog 4 #[.slice A0 l0.length c0, .slice A1 l1.length c1] w fun e w' => e = .returned (.bool r) ∧ Below w.heap.size w w' := laws_FnSumsAndMeets.G0.2.2 ⟨laws_FnSumsAndMeets.G1⟩ ⟨laws_FnSumsAndMeets.G2.2.2 ⟨laws_FnSumsAndMeets.G3.2 ⟨laws_FnSumsAndMeets.G4.2 ⟨laws_FnSumsAndMeets.G5⟩⟩⟩ ⟨laws_FnSumsAndMeets.G6.2 ⟨laws_FnSumsAndMeets.G7.2 ⟨laws_FnSumsAndMeets.G8.2 ⟨laws_FnSumsAndMeets.G9⟩⟩⟩⟩⟩ k A0 c0 l0 A1 c1 l1 r w hr0 hc0 hr1 hc1 h
end Go.Proofs.Ythjfilmdobkmlaa.P
