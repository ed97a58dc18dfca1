/- Words that the kit's own.py laid, cut. -/
import Derived.Test.YtkhjoomjjdgkjaaWInv
import Derived.Test.YtkhjoomjjdgkjaaWFootNe
namespace Go.Proofs.YtkhjoomjjdgkjaaW.PrintWords
open Go.RowKit
end Go.Proofs.YtkhjoomjjdgkjaaW.PrintWords
namespace Go.Proofs.YtkhjoomjjdgkjaaW.PrintLast
section
variable {ops : Array Oper} {a : Act} {o og : Oper} {g : Nat} {t : Tmp} {u : Bool}
end
end Go.Proofs.YtkhjoomjjdgkjaaW.PrintLast
