/- Words that the kit's own.py laid, cut. -/
import Derived.Test.YtbalkaphibnpcaaWN
namespace Go.Proofs.YtbalkaphibnpcaaW.PrintWords
open Go.RowKit
namespace Kd
section
variable {α : Type} {d : Kd α} {W : World} {g n : Nat} {S ok : Nat → Prop} {A : Option Addr} {ad : Addr} {xs : List α}
end
end Kd
end Go.Proofs.YtbalkaphibnpcaaW.PrintWords
