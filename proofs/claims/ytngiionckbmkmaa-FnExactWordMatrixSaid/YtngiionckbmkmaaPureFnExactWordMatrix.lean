/- The pure statement of the law FnExactWordMatrix. -/
import Derived.Test.YtngiionckbmkmaaVWordMatrix
import Derived.Test.YtngiionckbmkmaaStFnExactWordMatrix
namespace Go.Proofs.Ytngiionckbmkmaa.Pure
theorem FnExactWordMatrix : P.laws_FnExactWordMatrix.Pure := fun a0_0 a0_1 l1 _ _ _ _ => P.IsLim.some_ (P.laws_FnExactWordMatrix.lim a0_0 a0_1 l1) (P.WordMatrix_law a0_0 a0_1 l1)
end Go.Proofs.Ytngiionckbmkmaa.Pure
