/- Words of this seat's proofs: cut, to what they use, from what the kit's own.py laid. -/
import Derived.Test.YtljcjoodnkdljaaWN
namespace Go.Proofs.YtljcjoodnkdljaaW.PrintWords
open Go.RowKit
namespace Kd
section
variable {α : Type} {d : Kd α} {W : World} {g n : Nat} {S ok : Nat → Prop} {A : Option Addr} {ad : Addr} {xs : List α}
end
end Kd
end Go.Proofs.YtljcjoodnkdljaaW.PrintWords
