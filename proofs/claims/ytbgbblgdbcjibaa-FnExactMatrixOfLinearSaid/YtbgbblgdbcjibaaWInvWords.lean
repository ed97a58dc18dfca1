/- Words that the kit's own.py laid, cut. -/
import Derived.Test.YtbgbblgdbcjibaaWInv
import Derived.Test.YtbgbblgdbcjibaaWFootNe
namespace Go.Proofs.YtbgbblgdbcjibaaW.PrintWords
open Go.RowKit
end Go.Proofs.YtbgbblgdbcjibaaW.PrintWords
namespace Go.Proofs.YtbgbblgdbcjibaaW.PrintLast
section
variable {ops : Array Oper} {a : Act} {o og : Oper} {g : Nat} {t : Tmp} {u : Bool}
end
end Go.Proofs.YtbgbblgdbcjibaaW.PrintLast
