/- Words of this seat's proofs: cut, to what they use, from what the kit's own.py laid. -/
import Derived.Test.YtljcjoodnkdljaaWInv
import Derived.Test.YtljcjoodnkdljaaWFootNe
namespace Go.Proofs.YtljcjoodnkdljaaW.PrintWords
open Go.RowKit
end Go.Proofs.YtljcjoodnkdljaaW.PrintWords
namespace Go.Proofs.YtljcjoodnkdljaaW.PrintLast
section
variable {ops : Array Oper} {a : Act} {o og : Oper} {g : Nat} {t : Tmp} {u : Bool}
end
end Go.Proofs.YtljcjoodnkdljaaW.PrintLast
