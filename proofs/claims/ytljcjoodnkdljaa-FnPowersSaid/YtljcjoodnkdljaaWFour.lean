/- Words of this seat's proofs: cut, to what they use, from what the kit's own.py laid. -/
import Derived.Test.YtljcjoodnkdljaaWTab
namespace Go.Proofs.YtljcjoodnkdljaaW.PrintLast
section
variable {P : Program} {ops : Array Oper} {Q : Exit → Act → World → Prop} {md : Region.Mode} {S : World → Prop} {ds : List Nat} {T : Bool × List (List Nat × List Nat)}
end
end Go.Proofs.YtljcjoodnkdljaaW.PrintLast
