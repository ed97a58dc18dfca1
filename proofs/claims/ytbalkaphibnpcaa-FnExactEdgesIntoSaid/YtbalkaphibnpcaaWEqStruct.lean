/- Words that the kit's own.py laid, cut. -/
import Derived.Test.YtbalkaphibnpcaaWWords
import Derived.Laws.StructEq
namespace Go.Proofs.YtbalkaphibnpcaaW.PrintWords
open Go.RowKit
section
variable {P : Program} {d : Nat} {xs ys : Array Value} {f : Field} {fs : List Field} {a b : Value} {r s : Bool} {w : World}
end
end Go.Proofs.YtbalkaphibnpcaaW.PrintWords
