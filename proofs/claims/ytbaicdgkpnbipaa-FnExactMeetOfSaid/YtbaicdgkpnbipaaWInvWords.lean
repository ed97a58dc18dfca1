/- Words that the kit's own.py laid, cut. -/
import Derived.Test.YtbaicdgkpnbipaaWInv
import Derived.Test.YtbaicdgkpnbipaaWFootNe
namespace Go.Proofs.YtbaicdgkpnbipaaW.PrintWords
open Go.RowKit
end Go.Proofs.YtbaicdgkpnbipaaW.PrintWords
namespace Go.Proofs.YtbaicdgkpnbipaaW.PrintLast
section
variable {ops : Array Oper} {a : Act} {o og : Oper} {g : Nat} {t : Tmp} {u : Bool}
end
end Go.Proofs.YtbaicdgkpnbipaaW.PrintLast
