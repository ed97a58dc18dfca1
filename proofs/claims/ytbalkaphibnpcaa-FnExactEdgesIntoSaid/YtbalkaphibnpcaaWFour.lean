/- Words that the kit's own.py laid, cut. -/
import Derived.Test.YtbalkaphibnpcaaWTab
namespace Go.Proofs.YtbalkaphibnpcaaW.PrintLast
section
variable {P : Program} {ops : Array Oper} {Q : Exit → Act → World → Prop} {md : Region.Mode} {S : World → Prop} {ds : List Nat} {T : Bool × List (List Nat × List Nat)}
end
end Go.Proofs.YtbalkaphibnpcaaW.PrintLast
