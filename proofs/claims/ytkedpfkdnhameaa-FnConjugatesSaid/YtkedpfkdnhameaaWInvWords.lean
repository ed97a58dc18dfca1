/- Words that the kit's own.py laid, cut. -/
import Derived.Test.YtkedpfkdnhameaaWInv
import Derived.Test.YtkedpfkdnhameaaWFootNe
namespace Go.Proofs.YtkedpfkdnhameaaW.PrintWords
open Go.RowKit
end Go.Proofs.YtkedpfkdnhameaaW.PrintWords
namespace Go.Proofs.YtkedpfkdnhameaaW.PrintLast
section
variable {ops : Array Oper} {a : Act} {o og : Oper} {g : Nat} {t : Tmp} {u : Bool}
end
end Go.Proofs.YtkedpfkdnhameaaW.PrintLast
