/- Words of this seat's proofs: cut, to what they use, from what the kit's own.py laid. -/
import Derived.Test.YtngiionckbmkmaaWInv
import Derived.Test.YtngiionckbmkmaaWFootNe
namespace Go.Proofs.YtngiionckbmkmaaW.PrintWords
open Go.RowKit
end Go.Proofs.YtngiionckbmkmaaW.PrintWords
namespace Go.Proofs.YtngiionckbmkmaaW.PrintLast
section
variable {ops : Array Oper} {a : Act} {o og : Oper} {g : Nat} {t : Tmp} {u : Bool}
end
end Go.Proofs.YtngiionckbmkmaaW.PrintLast
