/- Words of this seat's proofs: cut, to what they use, from what the kit's own.py laid. -/
import Derived.Test.YtljcjoodnkdljaaWWords
import Derived.Laws.StructEq
namespace Go.Proofs.YtljcjoodnkdljaaW.PrintWords
open Go.RowKit
section
variable {P : Program} {d : Nat} {xs ys : Array Value} {f : Field} {fs : List Field} {a b : Value} {r s : Bool} {w : World}
end
end Go.Proofs.YtljcjoodnkdljaaW.PrintWords
