/- Words that the kit's own.py laid, cut. -/
import Derived.Test.YtpigghpimgkilaaWInv
import Derived.Test.YtpigghpimgkilaaWFootNe
namespace Go.Proofs.YtpigghpimgkilaaW.PrintWords
open Go.RowKit
end Go.Proofs.YtpigghpimgkilaaW.PrintWords
namespace Go.Proofs.YtpigghpimgkilaaW.PrintLast
section
variable {ops : Array Oper} {a : Act} {o og : Oper} {g : Nat} {t : Tmp} {u : Bool}
end
end Go.Proofs.YtpigghpimgkilaaW.PrintLast
