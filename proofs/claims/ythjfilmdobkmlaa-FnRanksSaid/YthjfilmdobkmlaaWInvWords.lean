/- Words that the kit's own.py laid, cut. -/
import Derived.Test.YthjfilmdobkmlaaWInv
import Derived.Test.YthjfilmdobkmlaaWFootNe
namespace Go.Proofs.YthjfilmdobkmlaaW.PrintWords
open Go.RowKit
end Go.Proofs.YthjfilmdobkmlaaW.PrintWords
namespace Go.Proofs.YthjfilmdobkmlaaW.PrintLast
section
variable {ops : Array Oper} {a : Act} {o og : Oper} {g : Nat} {t : Tmp} {u : Bool}
end
end Go.Proofs.YthjfilmdobkmlaaW.PrintLast
