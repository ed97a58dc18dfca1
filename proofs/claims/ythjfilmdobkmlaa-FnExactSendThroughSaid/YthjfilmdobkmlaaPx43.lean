/- Functions of the program and what they tell, as the printing program wrote it. -/
import Derived.Test.YthjfilmdobkmlaaPx0
import Derived.Test.YthjfilmdobkmlaaPx35
import Derived.Test.YthjfilmdobkmlaaPx36
import Derived.Test.YthjfilmdobkmlaaPx37
import Derived.Test.YthjfilmdobkmlaaPx38
import Derived.Test.YthjfilmdobkmlaaPx39
import Derived.Test.YthjfilmdobkmlaaPx43a
import Derived.Test.YthjfilmdobkmlaaPx43b
import Derived.Test.YthjfilmdobkmlaaPx43c
import Derived.Test.YthjfilmdobkmlaaPx43d
import Derived.Test.YthjfilmdobkmlaaPx43e
import Derived.Test.YthjfilmdobkmlaaPx43f
import Derived.Test.YthjfilmdobkmlaaPx43g
import Derived.Test.YthjfilmdobkmlaaPx43h
import Derived.Test.YthjfilmdobkmlaaPx43i
import Derived.Test.YthjfilmdobkmlaaPx43j
import Derived.Test.YthjfilmdobkmlaaPx43k
import Derived.Test.YthjfilmdobkmlaaPx43l
import Derived.Test.YthjfilmdobkmlaaPx43m
import Derived.Test.YthjfilmdobkmlaaPx43n
import Derived.Test.YthjfilmdobkmlaaPx43o
import Derived.Test.YthjfilmdobkmlaaPx43p
namespace Go.Proofs.Ythjfilmdobkmlaa.P
open Go.Shelf Go.RowKit Go.Proofs.YthjfilmdobkmlaaW.PrintWords Go.Proofs.YthjfilmdobkmlaaW.PrintLast Go.Proofs.YthjfilmdobkmlaaW.PrintMore
attribute [local go_sem] max2_int min2_int max_two min_two max_three min_three max_four min_four
set_option linter.unusedVariables false
set_option linter.unusedSimpArgs false
set_option maxHeartbeats 8000000
set_option maxRecDepth 100000
theorem laws_FnExactSendThrough.calls (k : Nat) (a0_0 : Int) (A0_1 : Option Addr) (c0_1 : Nat) (l0_1 : List Int) (a1_0 : Int) (A1_1 : Option Addr) (c1_1 : Nat) (l1_1 : List Int) (a2_0 : Int) (A2_1 : Option Addr) (c2_1 : Nat) (l2_1 : List Int) (r : Bool) (w : World) (hr0_1 : Kd.C (Kd.int .i64) w A0_1 l0_1.length l0_1) (hc0_1 : l0_1.length ≤ c0_1) (hr1_1 : Kd.C (Kd.int .i64) w A1_1 l1_1.length l1_1) (hc1_1 : l1_1.length ≤ c1_1) (hr2_1 : Kd.C (Kd.int .i64) w A2_1 l2_1.length l2_1) (hc2_1 : l2_1.length ≤ c2_1) (h : laws_FnExactSendThrough.f k a0_0 l0_1 a1_0 l1_1 a2_0 l2_1 = some r) :
 Calls Try.prog 6 #[.agg #[.int .i64 a0_0, .slice A0_1 l0_1.length c0_1], .agg #[.int .i64 a1_0, .slice A1_1 l1_1.length c1_1], .agg #[.int .i64 a2_0, .slice A2_1 l2_1.length c2_1]] w fun e w' => e = .returned (.bool r) ∧ Below w.heap.size w w' := laws_FnExactSendThrough.G0.2.2.2 ⟨laws_FnExactSendThrough.G1.2 ⟨laws_FnExactSendThrough.G2.2 ⟨laws_FnExactSendThrough.G3⟩⟩⟩ ⟨laws_FnExactSendThrough.G4⟩ ⟨laws_FnExactSendThrough.G5.2.2 ⟨laws_FnExactSendThrough.G6⟩ ⟨laws_FnExactSendThrough.G7.2.2 ⟨laws_FnExactSendThrough.G8.2 ⟨laws_FnExactSendThrough.G9.2 ⟨laws_FnExactSendThrough.G10.2 ⟨laws_FnExactSendThrough.G11.2 ⟨laws_FnExactSendThrough.G12.2 ⟨laws_FnExactSendThrough.G13.2 ⟨laws_FnExactSendThrough.G14⟩⟩⟩⟩⟩⟩⟩ ⟨laws_FnExactSendThrough.G15⟩⟩⟩ k a0_0 A0_1 c0_1 l0_1 a1_0 A1_1 c1_1 l1_1 a2_0 A2_1 c2_1 l2_1 r w hr0_1 hc0_1 hr1_1 hc1_1 hr2_1 hc2_1 h
end Go.Proofs.Ythjfilmdobkmlaa.P
