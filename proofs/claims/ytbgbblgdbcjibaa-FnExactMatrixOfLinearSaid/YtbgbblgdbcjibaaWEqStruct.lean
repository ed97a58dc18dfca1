/- Words that the kit's own.py laid, cut. -/
import Derived.Test.YtbgbblgdbcjibaaWWords
import Derived.Laws.StructEq
namespace Go.Proofs.YtbgbblgdbcjibaaW.PrintWords
open Go.RowKit
section
variable {P : Program} {d : Nat} {xs ys : Array Value} {f : Field} {fs : List Field} {a b : Value} {r s : Bool} {w : World}
end
end Go.Proofs.YtbgbblgdbcjibaaW.PrintWords
