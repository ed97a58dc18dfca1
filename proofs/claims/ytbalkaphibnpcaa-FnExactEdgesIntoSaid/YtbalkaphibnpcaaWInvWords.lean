/- Words that the kit's own.py laid, cut. -/
import Derived.Test.YtbalkaphibnpcaaWInv
import Derived.Test.YtbalkaphibnpcaaWFootNe
namespace Go.Proofs.YtbalkaphibnpcaaW.PrintWords
open Go.RowKit
end Go.Proofs.YtbalkaphibnpcaaW.PrintWords
namespace Go.Proofs.YtbalkaphibnpcaaW.PrintLast
section
variable {ops : Array Oper} {a : Act} {o og : Oper} {g : Nat} {t : Tmp} {u : Bool}
end
end Go.Proofs.YtbalkaphibnpcaaW.PrintLast
